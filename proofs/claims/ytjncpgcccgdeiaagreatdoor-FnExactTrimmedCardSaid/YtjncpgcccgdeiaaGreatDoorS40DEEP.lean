/-
  Texts of the walk, joined: what each one proves stands at its theorems.
-/
import Derived.Test.YtjncpgcccgdeiaaGreatDoorS52SPLIT
import Derived.Test.YtjncpgcccgdeiaaGreatDoorSlStr
import Derived.Test.YtjncpgcccgdeiaaGreatDoorS10SPEC
import Derived.Test.YtjncpgcccgdeiaaGreatDoorDatT
import Derived.RangeFuncRecord
import Derived.TacticsIn
import Derived.Test.YtjncpgcccgdeiaaGreatDoorDatM
set_option linter.unusedSimpArgs false
set_option linter.unusedVariables false
set_option linter.unnecessarySimpa false
namespace Go.Proofs.YtjncpgcccgdeiaaGreatDoor
open Go Go.RowKit
attribute [local irreducible] JL JC JQ JO LO PO JA JX Ct

set_option maxRecDepth 4000 in
set_option maxHeartbeats 1000000 in
theorem Y_bstr (b g cap : Nat) (u : Option Addr) (a : Option Addr) (cur : Array Value) (fz : Nat × Nat) (ha : a = some ⟨g, 0, none⟩) (l : Str) (hl0 : l ≠ []) (hcap : l.length ≤ cap) (hm : cap ≤ maxLen) (hsz : cap ≤ cur.size) (hcur : cur.toList.take l.length = l.map encB) :
    Ct Tryz.prog 81 [.pointer (some ⟨b, 0, none⟩)] [bk b 93 [.pointer u, .slice a l.length cap], .blk g (.cells cur TB fz)] (fun _ => True) (fun v A' => ∃ fz', v = str l ∧ A' = [bk b 93 [.pointer u, .slice a l.length cap], .blk g (.cells cur TB fz')]) := by
  have hm63 : cap ≤ 9223372036854775807 := by unfold maxLen at hm; omega
  have hlp : 0 < l.length := List.length_pos_iff.2 hl0
  refine Ct.intro Tryz.func81 rfl Tryz.ntmps81 (Nat.le_of_ble_eq_true rfl) fun w0 hpre => ?_
  refine JC.seq ?_
  refine JC.region ?_
  refine JL.pure rfl (PO.assign (v := str []) rfl) ?_
  refine JL.nil ?_
  refine JQ.seq ?_
  refine JC.seq ?_
  refine JC.regionA [bk b 93 [.pointer u, .slice a l.length cap]] 11 mixed (by simp) ?_
  refine JA.takeP 0 rfl (by kernel_rfl) (NP.th NP.body) (by kernel_rfl) (by kernel_rfl) rfl (PO.move (v := .pointer (some ⟨b, 0, none⟩)) rfl) ?_
  refine JA.takeP 1 rfl (by kernel_rfl) (NP.th NP.body) (by kernel_rfl) (by kernel_rfl) rfl (PO.nilCheck rfl) ?_
  refine JA.takeP 2 rfl (by kernel_rfl) (NP.th NP.body) (by kernel_rfl) (by kernel_rfl) rfl (PO.fieldAddr fo93_1 rfl) ?_
  refine JA.take 3 rfl (by kernel_rfl) (NP.th NP.body) (by kernel_rfl) (by kernel_rfl) (by kernel_rfl) rfl (LO.load1 0 (v := .slice a l.length cap) rfl rfl Tryz.isAgg39 rfl) ?_
  refine JA.takeP 4 rfl (by kernel_rfl) (NP.th NP.body) (by kernel_rfl) (by kernel_rfl) rfl (PO.unsafeData ha rfl (by omega)) ?_
  refine JA.takeP 5 rfl (by kernel_rfl) (NP.th NP.body) (by kernel_rfl) (by kernel_rfl) rfl (PO.move (v := .pointer (some ⟨b, 0, none⟩)) rfl) ?_
  refine JA.takeP 6 rfl (by kernel_rfl) (NP.th NP.body) (by kernel_rfl) (by kernel_rfl) rfl (PO.nilCheck rfl) ?_
  refine JA.takeP 7 rfl (by kernel_rfl) (NP.th NP.body) (by kernel_rfl) (by kernel_rfl) rfl (PO.fieldAddr fo93_1 rfl) ?_
  refine JA.take 8 rfl (by kernel_rfl) (NP.th NP.body) (by kernel_rfl) (by kernel_rfl) (by kernel_rfl) rfl (LO.load1 0 (v := .slice a l.length cap) rfl rfl Tryz.isAgg39 rfl) ?_
  refine JA.takeP 9 rfl (by kernel_rfl) (NP.th NP.body) (by kernel_rfl) (by kernel_rfl) rfl (PO.lenV Tryz.underlying39 rfl) ?_
  refine JA.one (i := 10) (by kernel_rfl) ?_
  refine JX.op rfl rfl (JO.unsafeStr 1 (l := l) rfl Tryz.underlying135 rfl rfl rfl hl0 (by omega) (by omega) hcur) ?_
  rintro _ _ ⟨fz_2, rfl, rfl⟩
  refine ⟨by simp, ?_⟩
  refine JA.takeP 11 rfl (by kernel_rfl) (NP.th NP.body) (by kernel_rfl) (by kernel_rfl) rfl (PO.assign (v := str l) rfl) ?_
  refine JA.done (by kernel_rfl) ?_
  refine JQ.seq ?_
  refine JC.ret ?_
  refine Done.one (.inl rfl) rfl (RV.tmp (v := str l) rfl) (List.Sublist.refl _) ?_
  exact ⟨_, rfl, rfl⟩

theorem Y_iHex (s : Str) (hs : s.length ≤ 20000) : Ct Tryz.prog 80 [str s] [] (fun _ => True) (fun v A' => v = str (hexB s) ∧ A' = []) :=
  (N_hexOf s (by omega)).weak (fun _ h => h) fun v A' ⟨u, e, _, hv, hA⟩ => ⟨by rw [hv, ← e, hexS, if_neg (by omega)], hA⟩

set_option maxRecDepth 4000 in
set_option maxHeartbeats 1000000 in
theorem Y_iRec (seq : Int) (a : Option Addr) (c : Nat) (l : List Cell) (hl : okC l) :
    Ct Tryz.prog 28 [.int .i64 seq, .slice a l.length c] [] (fun w => Sees w (.slice a l.length c) 2 l.length (l.flatMap encC)) (fun v A' => v = str (recText seq l) ∧ A' = []) := by
  refine Ct.intro Tryz.func28 rfl Tryz.ntmps28 (Nat.le_of_ble_eq_true rfl) fun w0 hpre => ?_
  have hs_a : Sees w0 _ _ _ _ := hpre
  have hll := hl.1
  refine JC.seq ?_
  refine JC.region ?_
  refine JL.pure rfl (PO.assign (v := str []) rfl) ?_
  refine JL.nil ?_
  refine JQ.seq ?_
  refine JC.seq ?_
  refine JC.seq ?_
  refine JC.region ?_
  refine JL.pure rfl (PO.move (v := .int .i64 seq) rfl) ?_
  refine JL.op rfl (JO.call [] Tryz.call76 rfl (Y_within seq 1 100000) rfl (fun _ _ => trivial)) ?_
  rintro _ _ ⟨_, ⟨rfl, rfl⟩, rfl⟩
  refine JL.pure rfl (PO.not rfl) ?_
  refine JL.nil ?_
  refine JQ.seq ?_
  rcases Bool.eq_false_or_eq_true (within 1 seq 100000) with h_1 | h_1
  · skip
    refine JC.condF (congrArg Value.bool (congrArg Bool.not h_1)) ?_
    refine JC.skip ?_
    refine JQ.seq ?_
    refine JC.seq ?_
    refine JC.region ?_
    refine JL.op rfl (JO.alloc (z := .agg #[.pointer none, .slice none 0 0]) (cs := [.pointer none, .slice none 0 0]) Tryz.zeroValue93 rfl) ?_
    rintro _ _ ⟨b_2, rfl, rfl⟩
    refine JL.nil ?_
    refine JQ.seq ?_
    refine JC.seq ?_
    have hwi := (show 1 ≤ seq ∧ seq ≤ 100000 by simpa only [within, Bool.and_eq_true, decide_eq_true_eq] using h_1)
    have hdl := dec_len (n := seq) (by omega) (by omega)
    have hdp := dec_pos seq
    refine JC.region ?_
    refine JL.pure rfl (PO.move (v := .int .i64 seq) rfl) ?_
    refine JL.op rfl (JO.call [] Tryz.call29 rfl (C_decimal seq (by omega) (by omega)) rfl (fun _ _ => trivial)) ?_
    rintro _ _ ⟨_, ⟨rfl, rfl⟩, rfl⟩
    have hdl_3 := dec_len (n := seq) (by omega) (by omega)
    refine JL.nilRow 5 1 ?_
    refine JL.op rfl (JO.call [1, 0] Tryz.call77 rfl (Y_ws0 b_2 none 0 ([] : Str) (dec seq) (by first | omega | ((try simp only [List.length_append, List.length_cons, List.length_nil]); omega)) (by first | omega | ((try simp only [List.length_append, List.length_cons, List.length_nil]); omega))) rfl (fun _ _ => trivial)) ?_
    rintro _ _ ⟨_, ⟨a_4, c_5, rfl, rfl⟩, rfl⟩
    refine JL.nil ?_
    refine JQ.seq ?_
    refine JC.seq ?_
    refine JC.seq ?_
    refine JC.region ?_
    refine JL.pure rfl (PO.move (v := .slice a l.length c) rfl) ?_
    refine JL.pure rfl (PO.lenV Tryz.underlying49 rfl) ?_
    refine JL.pure rfl (PO.move (v := .int .i64 0) rfl) ?_
    refine JL.nil ?_
    refine JQ.seq ?_
    refine JC.block ?_
    refine JC.loop (fun k_ e_ L_ => ∃ j : Nat, ∃ oa : Option Addr, ∃ oc : Nat, ∃ b : Str, (j ≤ l.length) ∧ (0 < b.length ∧ b.length ≤ 5000) ∧ (recGo b (l.drop j) = recGo (dec seq) l) ∧ e_ 5 = .pointer (some ⟨b_2, 0, none⟩) ∧ e_ 15 = .slice a l.length c ∧ e_ 16 = .int .i64 ((l.length : Nat) : Int) ∧ e_ 17 = .int .i64 ((j : Nat) : Int) ∧ L_ = [bk b_2 93 [.pointer (some ⟨b_2, 0, none⟩), .slice oa b.length oc], Res.row (.slice oa b.length oc) 5 1 b.length (b.map encB)] ∧ k_ = l.length - j) _ ⟨0, a_4, c_5, dec seq, by omega, by omega, rfl, rfl, rfl, rfl, rfl, rfl, rfl⟩ ?_
    rintro _ e_6 _ ⟨j, oa, oc, b, hj, hb, hR, he_7, he_8, he_9, he_10, rfl, rfl⟩
    refine JC.seq ?_
    refine JC.region ?_
    refine JL.pure rfl (PO.lss he_10 he_9) ?_
    refine JL.nil ?_
    refine JQ.seq ?_
    refine JC.seq ?_
    by_cases h_11 : ((j : Nat) : Int) < ((l.length : Nat) : Int)
    · skip
      have hlt : j < l.length := by omega
      refine JC.condT (congrArg Value.bool (decide_eq_true h_11)) ?_
      refine JC.skip ?_
      refine JQ.seq ?_
      refine JC.seq ?_
      refine JC.block ?_
      refine JC.seq ?_
      refine JC.region ?_
      obtain ⟨hr_12, hr_12b, -⟩ := sees_some hs_a (by omega)
      refine JL.pure rfl (PO.indexAddrV (i := j) Tryz.underlying49 Tryz.sizeOf48 hr_12 hr_12b he_8 he_10 (by omega)) ?_
      refine JL.ld rfl (LO.loadSK (vs := [str ((l.getD j c0).1), str ((l.getD j c0).2)]) hs_a (fun _ _ => List.not_mem_nil) rfl Tryz.isAgg48 Tryz.sizeOf48 (atC (by omega)) rfl (by decide)) ?_
      refine JL.op rfl (JO.alloc (z := .agg #[str [], str []]) (cs := [str [], str []]) Tryz.zeroValue48 rfl) ?_
      rintro _ _ ⟨b_13, rfl, rfl⟩
      refine JL.op rfl (JO.store 0 (vs := [str ((l.getD j c0).1), str ((l.getD j c0).2)]) (cs' := [str ((l.getD j c0).1), str ((l.getD j c0).2)]) rfl rfl rfl rfl Tryz.sizeOf48 rfl rfl (Nat.le_of_ble_eq_true rfl) rfl) ?_
      rintro _ _ rfl
      refine JL.nil ?_
      refine JQ.seq ?_
      refine JC.seq ?_
      refine JC.seq ?_
      refine JC.region ?_
      refine JL.pure rfl (PO.fieldAddr fo48_0 rfl) ?_
      refine JL.ld rfl (LO.load1 0 (v := str ((l.getD j c0).1)) rfl rfl Tryz.isAgg9 rfl) ?_
      refine JL.op rfl (JO.call [] Tryz.call78 rfl (Y_implKeyOk ((l.getD j c0).1) (hl.2 j hlt).1) rfl (fun _ _ => trivial)) ?_
      rintro _ _ ⟨_, ⟨rfl, rfl⟩, rfl⟩
      refine JL.pure rfl (PO.not rfl) ?_
      refine JL.pure rfl (PO.move (v := .bool (!(keyOk ((l.getD j c0).1)))) rfl) ?_
      rcases Bool.eq_false_or_eq_true (keyOk ((l.getD j c0).1)) with h_14 | h_14
      · skip
        have hk40 := keyOk_len h_14
        refine JL.guardOn rfl rfl rfl (congrArg Value.bool (congrArg Bool.not h_14)) (JO.ofLO (LO.pure (PO.fieldAddr fo48_1 rfl))) ?_
        rintro _ _ ⟨rfl, rfl⟩
        refine JL.guardOn rfl rfl rfl (congrArg Value.bool (congrArg Bool.not h_14)) (JO.ofLO (LO.load1 0 (v := str ((l.getD j c0).2)) rfl rfl Tryz.isAgg9 rfl)) ?_
        rintro _ _ ⟨rfl, rfl⟩
        refine JL.guardOn rfl rfl rfl (congrArg Value.bool (congrArg Bool.not h_14)) (JO.ofLO (LO.pure (PO.lenS Tryz.underlying9 rfl))) ?_
        rintro _ _ ⟨rfl, rfl⟩
        refine JL.guardOn rfl rfl rfl (congrArg Value.bool (congrArg Bool.not h_14)) (JO.ofLO (LO.pure (PO.gtr rfl rfl))) ?_
        rintro _ _ ⟨rfl, rfl⟩
        refine JL.pure rfl (PO.pickF (v := .bool (decide (60 < (((l.getD j c0).2).length : Int)))) (congrArg Value.bool (congrArg Bool.not h_14)) rfl) ?_
        refine JL.pure rfl (PO.move (v := .bool (decide (60 < (((l.getD j c0).2).length : Int)))) rfl) ?_
        by_cases h_15 : 60 < (((l.getD j c0).2).length : Int)
        · skip
          refine JL.guardOff (b := true) rfl rfl rfl (congrArg Value.bool (decide_eq_true h_15)) ?_
          refine JL.guardOff (b := true) rfl rfl rfl (congrArg Value.bool (decide_eq_true h_15)) ?_
          refine JL.pure rfl (PO.pickT (v := .bool true) (congrArg Value.bool (decide_eq_true h_15)) rfl) ?_
          refine JL.nil ?_
          refine JQ.seq ?_
          refine JC.condT (congrArg Value.bool rfl) ?_
          refine JC.seq ?_
          refine JC.region ?_
          refine JL.pure rfl (PO.assign (v := str []) rfl) ?_
          refine JL.nil ?_
          refine JQ.seq ?_
          refine JC.ret ?_
          refine JQ.thenRet ?_
          refine JQ.blockRet ?_
          refine JQ.thenRet ?_
          refine JQ.thenRet ?_
          refine JQ.blockRet ?_
          refine JQ.thenRet ?_
          refine Done.one (.inl rfl) rfl (RV.tmp (v := str []) rfl) (List.nil_sublist _) ?_
          refine ⟨congrArg str ?_, rfl⟩
          have hrt : recText seq l = recGo (dec seq) l := by unfold recText; rw [if_pos h_1]
          rw [hrt, ← hR, recGo_step hlt, if_pos (by simp only [recBad, Bool.and_true, Bool.true_and, Bool.and_false, Bool.false_and, Bool.or_true, Bool.true_or, Bool.or_false, Bool.false_or, Bool.not_true, Bool.not_false, (h_1), ((decide_eq_true h_11)), (h_14), ((decide_eq_true h_15))])]
        · skip
          refine JL.guardOn rfl rfl rfl (congrArg Value.bool (decide_eq_false h_15)) (JO.call [1] Tryz.call79 rfl (Y_blen b_2 (some ⟨b_2, 0, none⟩) oa b.length oc) (congr (congrArg List.cons he_7) rfl) (fun _ _ => trivial)) ?_
          rintro _ _ ⟨_, ⟨rfl, rfl⟩, rfl⟩
          refine JL.guardOn rfl rfl rfl (congrArg Value.bool (decide_eq_false h_15)) (JO.ofLO (LO.pure (PO.gtr rfl rfl))) ?_
          rintro _ _ ⟨rfl, rfl⟩
          refine JL.pure rfl (PO.pickF (v := .bool (decide (4000 < ((b.length : Nat) : Int)))) (congrArg Value.bool (decide_eq_false h_15)) rfl) ?_
          refine JL.nil ?_
          refine JQ.seq ?_
          by_cases h_16 : 4000 < ((b.length : Nat) : Int)
          · skip
            refine JC.condT (congrArg Value.bool (decide_eq_true h_16)) ?_
            refine JC.seq ?_
            refine JC.region ?_
            refine JL.pure rfl (PO.assign (v := str []) rfl) ?_
            refine JL.nil ?_
            refine JQ.seq ?_
            refine JC.ret ?_
            refine JQ.thenRet ?_
            refine JQ.blockRet ?_
            refine JQ.thenRet ?_
            refine JQ.thenRet ?_
            refine JQ.blockRet ?_
            refine JQ.thenRet ?_
            refine Done.one (.inl rfl) rfl (RV.tmp (v := str []) rfl) (List.nil_sublist _) ?_
            refine ⟨congrArg str ?_, rfl⟩
            have hrt : recText seq l = recGo (dec seq) l := by unfold recText; rw [if_pos h_1]
            rw [hrt, ← hR, recGo_step hlt, if_pos (by simp only [recBad, Bool.and_true, Bool.true_and, Bool.and_false, Bool.false_and, Bool.or_true, Bool.true_or, Bool.or_false, Bool.false_or, Bool.not_true, Bool.not_false, (h_1), ((decide_eq_true h_11)), (h_14), ((decide_eq_false h_15)), ((decide_eq_true h_16))])]
          · skip
            refine JC.condF (congrArg Value.bool (decide_eq_false h_16)) ?_
            refine JC.skip ?_
            refine JQ.seq ?_
            refine JC.regionA [bk b_13 48 [str ((l.getD j c0).1), str ((l.getD j c0).2)]] 1000 mixed (by simp) ?_
            refine JA.takeP 0 rfl (by kernel_rfl) (NP.bl (NP.th (NP.th (NP.bl (NP.th NP.body))))) (by kernel_rfl) (by kernel_rfl) rfl (PO.fieldAddr fo48_0 rfl) ?_
            refine JA.take 1 rfl (by kernel_rfl) (NP.bl (NP.th (NP.th (NP.bl (NP.th NP.body))))) (by kernel_rfl) (by kernel_rfl) (by kernel_rfl) rfl (LO.load1 0 (v := str ((l.getD j c0).1)) rfl rfl Tryz.isAgg9 rfl) ?_
            refine JA.takeP 5 rfl (by kernel_rfl) (NP.bl (NP.th (NP.th (NP.bl (NP.th NP.body))))) (by kernel_rfl) (by kernel_rfl) rfl (PO.fieldAddr fo48_1 rfl) ?_
            refine JA.take 6 rfl (by kernel_rfl) (NP.bl (NP.th (NP.th (NP.bl (NP.th NP.body))))) (by kernel_rfl) (by kernel_rfl) (by kernel_rfl) rfl (LO.load1 0 (v := str ((l.getD j c0).2)) rfl rfl Tryz.isAgg9 rfl) ?_
            refine JA.one (i := 2) (by kernel_rfl) ?_
            refine JX.op rfl rfl (JO.call [] Tryz.call80 rfl (Y_iHex ((l.getD j c0).1) (by omega)) rfl (fun _ _ => trivial)) ?_
            rintro _ _ ⟨_, ⟨rfl, rfl⟩, rfl⟩
            have hxl_20 := hexB_len ((l.getD j c0).1)
            refine ⟨by simp, ?_⟩
            refine JA.takeP 3 rfl (by kernel_rfl) (NP.bl (NP.th (NP.th (NP.bl (NP.th NP.body))))) (by kernel_rfl) (by kernel_rfl) rfl (PO.addS rfl rfl (by (try simp only [List.length_append, List.length_cons, List.length_nil, List.length_drop, List.length_take]); omega)) ?_
            refine JA.takeP 4 rfl (by kernel_rfl) (NP.bl (NP.th (NP.th (NP.bl (NP.th NP.body))))) (by kernel_rfl) (by kernel_rfl) rfl (PO.addS rfl rfl (by (try simp only [List.length_append, List.length_cons, List.length_nil, List.length_drop, List.length_take]); omega)) ?_
            refine JA.one (i := 7) (by kernel_rfl) ?_
            refine JX.op rfl rfl (JO.call [] Tryz.call80 rfl (Y_iHex ((l.getD j c0).2) (by omega)) rfl (fun _ _ => trivial)) ?_
            rintro _ _ ⟨_, ⟨rfl, rfl⟩, rfl⟩
            have hxl_22 := hexB_len ((l.getD j c0).2)
            refine ⟨by simp, ?_⟩
            refine JA.takeP 8 rfl (by kernel_rfl) (NP.bl (NP.th (NP.th (NP.bl (NP.th NP.body))))) (by kernel_rfl) (by kernel_rfl) rfl (PO.addS rfl rfl (by (try simp only [List.length_append, List.length_cons, List.length_nil, List.length_drop, List.length_take]); omega)) ?_
            refine JA.one (i := 9) (by kernel_rfl) ?_
            refine JX.op rfl rfl (JO.call [0, 1] Tryz.call77 rfl (Y_ws1 b_2 oa oc b ((([32] ++ (hexB ((l.getD j c0).1))) ++ [61]) ++ (hexB ((l.getD j c0).2))) (by first | omega | ((try simp only [List.length_append, List.length_cons, List.length_nil]); omega)) (by first | omega | ((try simp only [List.length_append, List.length_cons, List.length_nil]); omega))) (congr (congrArg List.cons he_7) (congr (congrArg List.cons rfl) rfl)) (fun _ _ => trivial)) ?_
            rintro _ _ ⟨_, ⟨a_25, c_26, rfl, rfl⟩, rfl⟩
            refine ⟨by simp, ?_⟩
            refine JA.done (by kernel_rfl) ?_
            refine JQ.blockN ?_
            refine JQ.seq ?_
            refine JC.region ?_
            refine JL.pure rfl (PO.add (c := ((j + 1 : Nat) : Int)) he_10 rfl (wr (by omega))) ?_
            refine JL.pure rfl (PO.move (v := .int .i64 ((j + 1 : Nat) : Int)) rfl) ?_
            refine JL.nil ?_
            refine JQ.pick [0, 0] (A := [bk b_2 93 [.pointer (some ⟨b_2, 0, none⟩), .slice a_25 ((b ++ ((([32] ++ (hexB ((l.getD j c0).1))) ++ [61]) ++ (hexB ((l.getD j c0).2)))).length) c_26], Res.row (.slice a_25 ((b ++ ((([32] ++ (hexB ((l.getD j c0).1))) ++ [61]) ++ (hexB ((l.getD j c0).2)))).length) c_26) 5 1 ((b ++ ((([32] ++ (hexB ((l.getD j c0).1))) ++ [61]) ++ (hexB ((l.getD j c0).2)))).length) ((b ++ ((([32] ++ (hexB ((l.getD j c0).1))) ++ [61]) ++ (hexB ((l.getD j c0).2)))).map encB)]) rfl ?_
            refine JQ.again (l.length - (j + 1)) (by omega) ⟨j + 1, a_25, c_26, (b ++ ((([32] ++ (hexB ((l.getD j c0).1))) ++ [61]) ++ (hexB ((l.getD j c0).2)))), by omega, (by simp only [List.length_append, List.length_cons, List.length_nil]; omega), (by rw [recGo_step hlt, if_neg (by simp only [recBad, Bool.and_true, Bool.true_and, Bool.and_false, Bool.false_and, Bool.or_true, Bool.true_or, Bool.or_false, Bool.false_or, Bool.not_true, Bool.not_false, (h_1), ((decide_eq_true h_11)), (h_14), ((decide_eq_false h_15)), ((decide_eq_false h_16))]; exact Bool.false_ne_true)] at hR; simp only [recRow] at hR; exact hR), he_7, he_8, he_9, rfl, rfl, rfl⟩
      · skip
        refine JL.guardOff (b := true) rfl rfl rfl (congrArg Value.bool (congrArg Bool.not h_14)) ?_
        refine JL.guardOff (b := true) rfl rfl rfl (congrArg Value.bool (congrArg Bool.not h_14)) ?_
        refine JL.guardOff (b := true) rfl rfl rfl (congrArg Value.bool (congrArg Bool.not h_14)) ?_
        refine JL.guardOff (b := true) rfl rfl rfl (congrArg Value.bool (congrArg Bool.not h_14)) ?_
        refine JL.pure rfl (PO.pickT (v := .bool true) (congrArg Value.bool (congrArg Bool.not h_14)) rfl) ?_
        refine JL.pure rfl (PO.move (v := .bool true) rfl) ?_
        refine JL.guardOff (b := true) rfl rfl rfl (congrArg Value.bool rfl) ?_
        refine JL.guardOff (b := true) rfl rfl rfl (congrArg Value.bool rfl) ?_
        refine JL.pure rfl (PO.pickT (v := .bool true) (congrArg Value.bool rfl) rfl) ?_
        refine JL.nil ?_
        refine JQ.seq ?_
        refine JC.condT (congrArg Value.bool rfl) ?_
        refine JC.seq ?_
        refine JC.region ?_
        refine JL.pure rfl (PO.assign (v := str []) rfl) ?_
        refine JL.nil ?_
        refine JQ.seq ?_
        refine JC.ret ?_
        refine JQ.thenRet ?_
        refine JQ.blockRet ?_
        refine JQ.thenRet ?_
        refine JQ.thenRet ?_
        refine JQ.blockRet ?_
        refine JQ.thenRet ?_
        refine Done.one (.inl rfl) rfl (RV.tmp (v := str []) rfl) (List.nil_sublist _) ?_
        refine ⟨congrArg str ?_, rfl⟩
        have hrt : recText seq l = recGo (dec seq) l := by unfold recText; rw [if_pos h_1]
        rw [hrt, ← hR, recGo_step hlt, if_pos (by simp only [recBad, Bool.and_true, Bool.true_and, Bool.and_false, Bool.false_and, Bool.or_true, Bool.true_or, Bool.or_false, Bool.false_or, Bool.not_true, Bool.not_false, (h_1), ((decide_eq_true h_11)), (h_14)])]
    · skip
      refine JC.condF (congrArg Value.bool (decide_eq_false h_11)) ?_
      refine JC.exit ?_
      refine JQ.thenExit ?_
      refine JQ.thenExit ?_
      refine JQ.blockE ?_
      refine JQ.seq ?_
      refine JC.seq ?_
      refine JC.rowBlk 1 rfl (by omega) ?_
      intro g_ cur_ fz_ ha_ hm1_ hm2_ hm3_ hm4_
      have hm63_ : oc ≤ 9223372036854775807 := by unfold maxLen at hm2_; omega
      have hl0_ : b ≠ [] := List.length_pos_iff.1 (by omega)
      refine JC.region ?_
      refine JL.op rfl (JO.call [0, 0] Tryz.call81 rfl (Y_bstr b_2 g_ oc (some ⟨b_2, 0, none⟩) oa cur_ fz_ ha_ b hl0_ (by omega) (by omega) (by omega) (by rw [Nat.mul_one] at hm4_; exact hm4_)) (congr (congrArg List.cons he_7) rfl) (fun _ _ => trivial)) ?_
      rintro _ _ ⟨_, ⟨fz_27, rfl, rfl⟩, rfl⟩
      refine JL.pure rfl (PO.addS rfl rfl (by (try simp only [List.length_append, List.length_cons, List.length_nil, List.length_drop, List.length_take]); omega)) ?_
      refine JL.op rfl (JO.call [0, 0] Tryz.call81 rfl (Y_bstr b_2 g_ oc (some ⟨b_2, 0, none⟩) oa cur_ fz_27 ha_ b hl0_ (by omega) (by omega) (by omega) (by rw [Nat.mul_one] at hm4_; exact hm4_)) (congr (congrArg List.cons he_7) rfl) (fun _ _ => trivial)) ?_
      rintro _ _ ⟨_, ⟨fz_28, rfl, rfl⟩, rfl⟩
      refine JL.op rfl (JO.call [] Tryz.call82 rfl (Y_implSum b (by (try simp only [List.length_append, List.length_cons, List.length_nil]); omega)) rfl (fun _ _ => trivial)) ?_
      rintro _ _ ⟨_, ⟨rfl, rfl⟩, rfl⟩
      have hbs_29 := byteSum_lo b
      refine JL.op rfl (JO.call [] Tryz.call29 rfl (C_decimal ((byteSum b : Nat) : Int) (by omega) (by omega)) rfl (fun _ _ => trivial)) ?_
      rintro _ _ ⟨_, ⟨rfl, rfl⟩, rfl⟩
      have hdl_30 := dec_len (n := ((byteSum b : Nat) : Int)) (by omega) (by omega)
      refine JL.pure rfl (PO.addS rfl rfl (by (try simp only [List.length_append, List.length_cons, List.length_nil, List.length_drop, List.length_take]); omega)) ?_
      refine JL.pure rfl (PO.addS rfl rfl (by (try simp only [List.length_append, List.length_cons, List.length_nil, List.length_drop, List.length_take]); omega)) ?_
      refine JL.pure rfl (PO.assign (v := str (((b ++ [32, 35]) ++ (dec ((byteSum b : Nat) : Int))) ++ [10])) rfl) ?_
      refine JL.nil ?_
      refine JQ.seq ?_
      refine JC.seq ?_
      refine JC.seq ?_
      refine JC.region ?_
      refine JL.pure rfl (PO.move (v := str (((b ++ [32, 35]) ++ (dec ((byteSum b : Nat) : Int))) ++ [10])) rfl) ?_
      refine JL.pure rfl (PO.lenS Tryz.underlying9 rfl) ?_
      refine JL.pure rfl (PO.gtr rfl rfl) ?_
      refine JL.nil ?_
      refine JQ.seq ?_
      by_cases h_31 : 4000 < ((((b ++ [32, 35]) ++ (dec ((byteSum b : Nat) : Int))) ++ [10]).length : Int)
      · skip
        refine JC.condT (congrArg Value.bool (decide_eq_true h_31)) ?_
        refine JC.seq ?_
        refine JC.region ?_
        refine JL.pure rfl (PO.assign (v := str []) rfl) ?_
        refine JL.nil ?_
        refine JQ.seq ?_
        refine JC.ret ?_
        refine JQ.thenRet ?_
        refine Done.one (.inl rfl) rfl (RV.tmp (v := str []) rfl) (List.nil_sublist _) ?_
        refine ⟨congrArg str ?_, rfl⟩
        have hrt : recText seq l = recGo (dec seq) l := by unfold recText; rw [if_pos h_1]
        rw [hrt, ← hR, List.drop_of_length_le (by omega), recGo, recEnd]
        first | rw [if_pos (by assumption)] | rw [if_neg (by assumption)]
      · skip
        refine JC.condF (congrArg Value.bool (decide_eq_false h_31)) ?_
        refine JC.skip ?_
        refine JQ.seq ?_
        refine JC.seq ?_
        refine JC.region ?_
        refine JL.pure rfl (PO.move (v := str (((b ++ [32, 35]) ++ (dec ((byteSum b : Nat) : Int))) ++ [10])) rfl) ?_
        refine JL.pure rfl (PO.assign (v := str (((b ++ [32, 35]) ++ (dec ((byteSum b : Nat) : Int))) ++ [10])) rfl) ?_
        refine JL.nil ?_
        refine JQ.seq ?_
        refine JC.ret ?_
        refine Done.one (.inl rfl) rfl (RV.tmp (v := str (((b ++ [32, 35]) ++ (dec ((byteSum b : Nat) : Int))) ++ [10])) rfl) (List.nil_sublist _) ?_
        refine ⟨congrArg str ?_, rfl⟩
        have hrt : recText seq l = recGo (dec seq) l := by unfold recText; rw [if_pos h_1]
        rw [hrt, ← hR, List.drop_of_length_le (by omega), recGo, recEnd]
        first | rw [if_pos (by assumption)] | rw [if_neg (by assumption)]
  · skip
    refine JC.condT (congrArg Value.bool (congrArg Bool.not h_1)) ?_
    refine JC.seq ?_
    refine JC.region ?_
    refine JL.pure rfl (PO.assign (v := str []) rfl) ?_
    refine JL.nil ?_
    refine JQ.seq ?_
    refine JC.ret ?_
    refine JQ.thenRet ?_
    refine Done.one (.inl rfl) rfl (RV.tmp (v := str []) rfl) (List.nil_sublist _) ?_
    refine ⟨congrArg str ?_, rfl⟩
    unfold recText
    rw [h_1]
    rfl

theorem Y_iUnhex (t : Str) (ht : t.length ≤ 100000000) : Ct Tryz.prog 115 [str t] [] (fun w => HexOk w) (fun v A' => v = .tuple #[str (unhex t).1, .bool (unhex t).2] ∧ A' = []) :=
  (N_unhex t (by omega)).weak (fun _ h => h) fun v A' ⟨u, b, e, _, hv, hA⟩ => ⟨by rw [hv, e], hA⟩
theorem cutB_len (c : UInt8) : ∀ s : Str, (cutB c s).1.length ≤ s.length ∧ (cutB c s).2.length ≤ s.length
  | [] => ⟨Nat.le_refl _, Nat.le_refl _⟩
  | x :: s => by
    have h := cutB_len c s
    unfold cutB
    split
    · exact ⟨Nat.zero_le _, by simp⟩
    · simp only [List.length_cons]; omega

set_option maxRecDepth 4000 in
set_option maxHeartbeats 1000000 in
theorem Y_iRead (t : Str) (ht : t.length ≤ 100000000) :
    Ct Tryz.prog 64 [str t] [] (fun w => HexOk w) (fun v A' => ∃ a c, v = .tuple #[.int .i64 (readI t).1, .slice a (readI t).2.1.length c, .bool (readI t).2.2] ∧ A' = [.row (.slice a (readI t).2.1.length c) 48 2 (readI t).2.1.length ((readI t).2.1.flatMap encC)]) := by
  refine Ct.introL Tryz.func64 rfl Tryz.ntmps64 (Nat.le_of_ble_eq_true rfl) fun w0 hpre hlow => ?_
  refine JC.seq ?_
  refine JC.region ?_
  refine JL.pure rfl (PO.assign (v := .int .i64 0) rfl) ?_
  refine JL.pure rfl (PO.assign (v := .slice none 0 0) rfl) ?_
  refine JL.pure rfl (PO.assign (v := .bool false) rfl) ?_
  refine JL.nil ?_
  refine JQ.seq ?_
  refine JC.seq ?_
  refine JC.seq ?_
  refine JC.region ?_
  refine JL.pure rfl (PO.move (v := str t) rfl) ?_
  refine JL.pure rfl (PO.lenS Tryz.underlying9 rfl) ?_
  refine JL.pure rfl (PO.gtr rfl rfl) ?_
  refine JL.nil ?_
  refine JQ.seq ?_
  by_cases h_1 : 4000 < (t.length : Int)
  · skip
    refine JC.condT (congrArg Value.bool (decide_eq_true h_1)) ?_
    refine JC.seq ?_
    refine JC.region ?_
    refine JL.pure rfl (PO.assign (v := .int .i64 0) rfl) ?_
    refine JL.pure rfl (PO.assign (v := .slice none 0 0) rfl) ?_
    refine JL.pure rfl (PO.assign (v := .bool false) rfl) ?_
    refine JL.nil ?_
    refine JQ.seq ?_
    refine JC.ret ?_
    refine JQ.thenRet ?_
    refine JQ.nilRow 48 2 ?_
    refine Done.three (.inl rfl) rfl (RV.tmp (v := .int .i64 0) rfl) (RV.tmp (v := .slice none 0 0) rfl) (RV.tmp (v := .bool false) rfl) (List.Sublist.refl _) ?_
    have he : readI t = (0, [], false) := if_pos h_1
    exact ⟨none, 0, by rw [he] <;> rfl, by rw [he] <;> rfl⟩
  · skip
    refine JC.condF (congrArg Value.bool (decide_eq_false h_1)) ?_
    refine JC.skip ?_
    refine JQ.seq ?_
    refine JC.seq ?_
    refine JC.region ?_
    refine JL.pure rfl (PO.move (v := str t) rfl) ?_
    refine JL.op rfl (JO.call [] Tryz.call112 rfl (Y_split t 32 (by omega)) rfl (fun _ _ => trivial)) ?_
    rintro _ _ ⟨_, ⟨a_2, c_3, rfl, rfl⟩, rfl⟩
    have hsp_4 := splitB_len 32 t
    refine JL.pure rfl (PO.assign (v := .slice a_2 ((splitB 32 t).length) c_3) rfl) ?_
    refine JL.nil ?_
    refine JQ.seq ?_
    refine JC.seq ?_
    refine JC.region ?_
    refine JL.pure rfl (PO.move (v := .slice a_2 ((splitB 32 t).length) c_3) rfl) ?_
    refine JL.facts fun hst => ?_
    obtain ⟨hr_5, hr_5b, -⟩ := row_some 0 rfl (by omega) hst
    refine JL.pure rfl (PO.indexAddrV (i := 0) Tryz.underlying71 Tryz.sizeOf9 hr_5 hr_5b rfl rfl (by omega)) ?_
    refine JL.ld rfl (LO.loadR1 0 (v := str ((splitB 32 t).getD 0 [])) rfl rfl Tryz.isAgg9 (atS (by omega))) ?_
    refine JL.op rfl (JO.call [] Tryz.call113 rfl (C_readDecimal ((splitB 32 t).getD 0 []) (by have h_2 := splitB_get 32 t 0; omega)) rfl (fun _ _ => trivial)) ?_
    rintro _ _ ⟨_, ⟨rfl, rfl⟩, rfl⟩
    refine JL.pure rfl (PO.move (v := .tuple #[.int .i64 ((readDec ((splitB 32 t).getD 0 [])).1), .bool ((readDec ((splitB 32 t).getD 0 [])).2)]) rfl) ?_
    refine JL.pure rfl (PO.extract (v := .int .i64 ((readDec ((splitB 32 t).getD 0 [])).1)) rfl rfl) ?_
    refine JL.pure rfl (PO.extract (v := .bool ((readDec ((splitB 32 t).getD 0 [])).2)) rfl rfl) ?_
    refine JL.pure rfl (PO.assign (v := .int .i64 ((readDec ((splitB 32 t).getD 0 [])).1)) rfl) ?_
    refine JL.pure rfl (PO.assign (v := .bool ((readDec ((splitB 32 t).getD 0 [])).2)) rfl) ?_
    refine JL.nil ?_
    refine JQ.seq ?_
    refine JC.seq ?_
    refine JC.region ?_
    refine JL.pure rfl (PO.assign (v := .slice none 0 0) rfl) ?_
    refine JL.nil ?_
    refine JQ.seq ?_
    refine JC.seq ?_
    refine JC.seq ?_
    refine JC.region ?_
    refine JL.pure rfl (PO.move (v := .slice a_2 ((splitB 32 t).length) c_3) rfl) ?_
    refine JL.pure rfl (PO.move (v := .slice a_2 ((splitB 32 t).length) c_3) rfl) ?_
    refine JL.pure rfl (PO.lenV Tryz.underlying71 rfl) ?_
    refine JL.pure rfl (PO.max2D (c := ((max (splitB 32 t).length 2 : Nat) : Int)) rfl rfl (by omega)) ?_
    refine JL.pure rfl (PO.sub (c := (((max (splitB 32 t).length 2) - 1 : Nat) : Int)) rfl rfl (wr (by omega))) ?_
    refine JL.facts fun hst => ?_
    obtain ⟨hf_6m, hf_6x, hf_6s, hf_6l⟩ := fits_of hst (i := 0) rfl
    refine JL.pure rfl (PO.sliceVlh (i := 1) (j := ((max (splitB 32 t).length 2) - 1)) Tryz.underlying71 Tryz.sizeOf9 hf_6s rfl rfl rfl (by omega) (by omega)) ?_
    refine JL.pure rfl (PO.lenV Tryz.underlying71 rfl) ?_
    refine JL.pure rfl (PO.move (v := .int .i64 0) rfl) ?_
    refine JL.nil ?_
    refine JQ.seq ?_
    refine JC.block ?_
    refine JC.nilRow 48 2 ?_
    refine JC.loop (fun k_ e_ L_ => ∃ j : Nat, ∃ oa : Option Addr, ∃ oc : Nat, ∃ o_ : List Cell, (j ≤ max (splitB 32 t).length 2 - 1 - 1) ∧ (o_.length ≤ j) ∧ (o_ = (((splitB 32 t).drop 1).take j).map readWord) ∧ e_ 0 = str t ∧ e_ 2 = .int .i64 0 ∧ e_ 3 = .slice none 0 0 ∧ e_ 4 = .bool false ∧ e_ 6 = .int .i64 ((readDec ((splitB 32 t).getD 0 [])).1) ∧ e_ 8 = .slice oa o_.length oc ∧ e_ 35 = .slice (subA 1 a_2 c_3 1) (((max (splitB 32 t).length 2) - 1) - 1) (c_3 - 1) ∧ e_ 36 = .int .i64 ((((max (splitB 32 t).length 2) - 1) - 1 : Nat) : Int) ∧ e_ 37 = .int .i64 ((j : Nat) : Int) ∧ L_ = [rC oa oc o_, rS a_2 c_3 (splitB 32 t)] ∧ k_ = (max (splitB 32 t).length 2 - 1 - 1) - j) _ ⟨0, none, 0, [], by omega, (by simp), (by simp), rfl, rfl, rfl, rfl, rfl, rfl, rfl, rfl, rfl, rfl, rfl⟩ ?_
    rintro _ e_7 _ ⟨j, oa, oc, o_, hj, hol, ho, he_8, he_9, he_10, he_11, he_12, he_13, he_14, he_15, he_16, rfl, rfl⟩
    refine JC.seq ?_
    refine JC.region ?_
    refine JL.pure rfl (PO.lss he_16 he_15) ?_
    refine JL.nil ?_
    refine JQ.seq ?_
    refine JC.seq ?_
    by_cases h_17 : ((j : Nat) : Int) < ((((max (splitB 32 t).length 2) - 1) - 1 : Nat) : Int)
    · skip
      have hlt : j < (splitB 32 t).length := by omega
      refine JC.condT (congrArg Value.bool (decide_eq_true h_17)) ?_
      refine JC.skip ?_
      refine JQ.seq ?_
      refine JC.seq ?_
      refine JC.block ?_
      refine JC.seq ?_
      refine JC.region ?_
      refine JL.pure rfl (PO.indexSub (lo := 1) (i := j) Tryz.underlying71 Tryz.sizeOf9 hr_5 hr_5b he_14 he_16 (by omega) (by omega)) ?_
      refine JL.ld rfl (LO.loadR1 1 (v := str ((splitB 32 t).getD (1 + j) [])) rfl rfl Tryz.isAgg9 (atS (by omega))) ?_
      refine JL.pure rfl (PO.assign (v := str ((splitB 32 t).getD (1 + j) [])) rfl) ?_
      refine JL.nil ?_
      refine JQ.seq ?_
      refine JC.seq ?_
      refine JC.region ?_
      refine JL.pure rfl (PO.move (v := str ((splitB 32 t).getD (1 + j) [])) rfl) ?_
      refine JL.op rfl (JO.call [] Tryz.call114 rfl (Y_cut ((splitB 32 t).getD (1 + j) []) 61 (by have h_1 := splitB_get 32 t (1 + j); omega)) rfl (fun _ _ => trivial)) ?_
      rintro _ _ ⟨_, ⟨b_18, rfl, rfl⟩, rfl⟩
      refine JL.pure rfl (PO.move (v := .tuple #[str ((cutB 61 ((splitB 32 t).getD (1 + j) [])).1), str ((cutB 61 ((splitB 32 t).getD (1 + j) [])).2), .bool b_18]) rfl) ?_
      refine JL.pure rfl (PO.extract (v := str ((cutB 61 ((splitB 32 t).getD (1 + j) [])).1)) rfl rfl) ?_
      refine JL.pure rfl (PO.extract (v := str ((cutB 61 ((splitB 32 t).getD (1 + j) [])).2)) rfl rfl) ?_
      refine JL.pure rfl (PO.extract (v := .bool b_18) rfl rfl) ?_
      refine JL.pure rfl (PO.assign (v := str ((cutB 61 ((splitB 32 t).getD (1 + j) [])).1)) rfl) ?_
      refine JL.pure rfl (PO.assign (v := str ((cutB 61 ((splitB 32 t).getD (1 + j) [])).2)) rfl) ?_
      refine JL.pure rfl (PO.assign (v := .bool b_18) rfl) ?_
      refine JL.nil ?_
      refine JQ.seq ?_
      refine JC.seq ?_
      refine JC.region ?_
      refine JL.pure rfl (PO.move (v := str ((cutB 61 ((splitB 32 t).getD (1 + j) [])).1)) rfl) ?_
      refine JL.op rfl (JO.call [] Tryz.call115 rfl (Y_iUnhex ((cutB 61 ((splitB 32 t).getD (1 + j) [])).1) (by have h_1 := splitB_get 32 t (1 + j); have h_2 := cutB_len 61 ((splitB 32 t).getD (1 + j) []); omega)) rfl (fun w hw => hw.hex hlow hpre)) ?_
      rintro _ _ ⟨_, ⟨rfl, rfl⟩, rfl⟩
      refine JL.pure rfl (PO.move (v := .tuple #[str ((unhex ((cutB 61 ((splitB 32 t).getD (1 + j) [])).1)).1), .bool ((unhex ((cutB 61 ((splitB 32 t).getD (1 + j) [])).1)).2)]) rfl) ?_
      refine JL.pure rfl (PO.extract (v := str ((unhex ((cutB 61 ((splitB 32 t).getD (1 + j) [])).1)).1)) rfl rfl) ?_
      refine JL.pure rfl (PO.extract (v := .bool ((unhex ((cutB 61 ((splitB 32 t).getD (1 + j) [])).1)).2)) rfl rfl) ?_
      refine JL.pure rfl (PO.assign (v := str ((unhex ((cutB 61 ((splitB 32 t).getD (1 + j) [])).1)).1)) rfl) ?_
      refine JL.pure rfl (PO.assign (v := .bool ((unhex ((cutB 61 ((splitB 32 t).getD (1 + j) [])).1)).2)) rfl) ?_
      refine JL.nil ?_
      refine JQ.seq ?_
      refine JC.seq ?_
      refine JC.region ?_
      refine JL.pure rfl (PO.move (v := str ((cutB 61 ((splitB 32 t).getD (1 + j) [])).2)) rfl) ?_
      refine JL.op rfl (JO.call [] Tryz.call115 rfl (Y_iUnhex ((cutB 61 ((splitB 32 t).getD (1 + j) [])).2) (by have h_1 := splitB_get 32 t (1 + j); have h_2 := cutB_len 61 ((splitB 32 t).getD (1 + j) []); omega)) rfl (fun w hw => hw.hex hlow hpre)) ?_
      rintro _ _ ⟨_, ⟨rfl, rfl⟩, rfl⟩
      refine JL.pure rfl (PO.move (v := .tuple #[str ((unhex ((cutB 61 ((splitB 32 t).getD (1 + j) [])).2)).1), .bool ((unhex ((cutB 61 ((splitB 32 t).getD (1 + j) [])).2)).2)]) rfl) ?_
      refine JL.pure rfl (PO.extract (v := str ((unhex ((cutB 61 ((splitB 32 t).getD (1 + j) [])).2)).1)) rfl rfl) ?_
      refine JL.pure rfl (PO.extract (v := .bool ((unhex ((cutB 61 ((splitB 32 t).getD (1 + j) [])).2)).2)) rfl rfl) ?_
      refine JL.pure rfl (PO.assign (v := str ((unhex ((cutB 61 ((splitB 32 t).getD (1 + j) [])).2)).1)) rfl) ?_
      refine JL.pure rfl (PO.assign (v := .bool ((unhex ((cutB 61 ((splitB 32 t).getD (1 + j) [])).2)).2)) rfl) ?_
      refine JL.nil ?_
      refine JQ.seq ?_
      refine JC.region ?_
      refine JL.pure rfl (PO.move (v := .slice oa o_.length oc) he_13) ?_
      refine JL.pure rfl (PO.move (v := str ((unhex ((cutB 61 ((splitB 32 t).getD (1 + j) [])).1)).1)) rfl) ?_
      refine JL.pure rfl (PO.move (v := str ((unhex ((cutB 61 ((splitB 32 t).getD (1 + j) [])).2)).1)) rfl) ?_
      refine JL.pure rfl (PO.build (ps := [(0, str ((unhex ((cutB 61 ((splitB 32 t).getD (1 + j) [])).1)).1)), (1, str ((unhex ((cutB 61 ((splitB 32 t).getD (1 + j) [])).2)).1))]) (cs := [str ((unhex ((cutB 61 ((splitB 32 t).getD (1 + j) [])).1)).1), str ((unhex ((cutB 61 ((splitB 32 t).getD (1 + j) [])).2)).1)]) rfl (by kernel_rfl)) ?_
      refine JL.op rfl (JO.buildSlice (ps := [(0, .agg #[str ((unhex ((cutB 61 ((splitB 32 t).getD (1 + j) [])).1)).1), str ((unhex ((cutB 61 ((splitB 32 t).getD (1 + j) [])).2)).1)])]) (cur := #[str ((unhex ((cutB 61 ((splitB 32 t).getD (1 + j) [])).1)).1), str ((unhex ((cutB 61 ((splitB 32 t).getD (1 + j) [])).2)).1)]) Tryz.underlying49 Tryz.sizeOf48 Tryz.zeroValue48 rfl (by kernel_rfl) (by decide) (by decide)) ?_
      rintro _ _ ⟨a_19, rfl, rfl⟩
      refine JL.op rfl (JO.append' 1 (q := 1) (news := ([((unhex ((cutB 61 ((splitB 32 t).getD (1 + j) [])).1)).1, (unhex ((cutB 61 ((splitB 32 t).getD (1 + j) [])).2)).1)] : List Cell).flatMap encC) (n' := (o_ ++ ([((unhex ((cutB 61 ((splitB 32 t).getD (1 + j) [])).1)).1, (unhex ((cutB 61 ((splitB 32 t).getD (1 + j) [])).2)).1)] : List Cell)).length) (cs' := (o_ ++ ([((unhex ((cutB 61 ((splitB 32 t).getD (1 + j) [])).1)).1, (unhex ((cutB 61 ((splitB 32 t).getD (1 + j) [])).2)).1)] : List Cell)).flatMap encC) rfl Tryz.underlying49 Tryz.underlying49 Tryz.typeInfo48 rfl (by' := 32) rfl rfl rfl rfl rfl (fun w hw => Src.sees (hw.see (i := 0) rfl) (oneC _)) (by (try simp only [List.length_append, List.length_cons, List.length_nil, List.length_take, List.length_drop]); omega) (by (try simp only [List.length_append, List.length_cons, List.length_nil, List.length_take, List.length_drop]); omega) (by simp only [List.length_append, List.length_take, List.length_drop, List.length_cons, List.length_nil] <;> first | rfl | omega) (by simp only [List.flatMap_append])) ?_
      rintro _ _ ⟨a_20, c_21, rfl, rfl⟩
      refine JL.pure rfl (PO.assign (v := .slice a_20 ((o_ ++ ([((unhex ((cutB 61 ((splitB 32 t).getD (1 + j) [])).1)).1, (unhex ((cutB 61 ((splitB 32 t).getD (1 + j) [])).2)).1)] : List Cell)).length) c_21) rfl) ?_
      refine JL.nil ?_
      refine JQ.blockN ?_
      refine JQ.seq ?_
      refine JC.region ?_
      refine JL.pure rfl (PO.add (c := ((j + 1 : Nat) : Int)) he_16 rfl (wr (by omega))) ?_
      refine JL.pure rfl (PO.move (v := .int .i64 ((j + 1 : Nat) : Int)) rfl) ?_
      refine JL.nil ?_
      refine JQ.pick [1, 1] (A := [rC a_20 c_21 (o_ ++ ([((unhex ((cutB 61 ((splitB 32 t).getD (1 + j) [])).1)).1, (unhex ((cutB 61 ((splitB 32 t).getD (1 + j) [])).2)).1)] : List Cell)), rS a_2 c_3 (splitB 32 t)]) rfl ?_
      refine JQ.again ((max (splitB 32 t).length 2 - 1 - 1) - (j + 1)) (by omega) ⟨j + 1, a_20, c_21, (o_ ++ ([((unhex ((cutB 61 ((splitB 32 t).getD (1 + j) [])).1)).1, (unhex ((cutB 61 ((splitB 32 t).getD (1 + j) [])).2)).1)] : List Cell)), by omega, (by (try simp only [List.length_append, List.length_cons, List.length_nil]); omega), (by have h_ := mids_step (p := splitB 32 t) (i := j + 1) (by omega) (by omega); simp only [Nat.add_sub_cancel] at h_; rw [h_, ← ho, Nat.add_comm 1 j]; rfl), he_8, he_9, he_10, he_11, he_12, rfl, he_14, he_15, rfl, rfl, rfl⟩
    · skip
      refine JC.condF (congrArg Value.bool (decide_eq_false h_17)) ?_
      refine JC.exit ?_
      refine JQ.thenExit ?_
      refine JQ.thenExit ?_
      refine JQ.blockE ?_
      refine JQ.seq ?_
      refine JC.seq ?_
      refine JC.seq ?_
      have hokl : okC o_ := by rw [ho]; exact okC_read (by rw [List.length_take, List.length_drop]; omega)
      refine JC.region ?_
      refine JL.pure rfl (PO.move (v := str t) he_8) ?_
      refine JL.pure rfl (PO.eqlS rfl rfl) ?_
      refine JL.pure rfl (PO.move (v := .bool (decide (t = []))) rfl) ?_
      by_cases h_22 : t = []
      · skip
        refine JL.guardOff (b := true) rfl rfl rfl (congrArg Value.bool (decide_eq_true h_22)) ?_
        refine JL.guardOff (b := true) rfl rfl rfl (congrArg Value.bool (decide_eq_true h_22)) ?_
        refine JL.guardOff (b := true) rfl rfl rfl (congrArg Value.bool (decide_eq_true h_22)) ?_
        refine JL.guardOff (b := true) rfl rfl rfl (congrArg Value.bool (decide_eq_true h_22)) ?_
        refine JL.guardOff (b := true) rfl rfl rfl (congrArg Value.bool (decide_eq_true h_22)) ?_
        refine JL.pure rfl (PO.pickT (v := .bool true) (congrArg Value.bool (decide_eq_true h_22)) rfl) ?_
        refine JL.nil ?_
        refine JQ.seq ?_
        refine JC.condT (congrArg Value.bool rfl) ?_
        refine JC.seq ?_
        refine JC.region ?_
        refine JL.pure rfl (PO.assign (v := .int .i64 0) rfl) ?_
        refine JL.pure rfl (PO.assign (v := .slice none 0 0) rfl) ?_
        refine JL.pure rfl (PO.assign (v := .bool false) rfl) ?_
        refine JL.nil ?_
        refine JQ.seq ?_
        refine JC.ret ?_
        refine JQ.thenRet ?_
        refine JQ.nilRow 48 2 ?_
        refine Done.three (.inl rfl) rfl (RV.tmp (v := .int .i64 0) rfl) (RV.tmp (v := .slice none 0 0) rfl) (RV.tmp (v := .bool false) rfl) (List.sublist_append_left [Res.row (.slice none 0 0) 48 2 0 (([] : List Cell).flatMap encC)] [rC oa oc o_, rS a_2 c_3 (splitB 32 t)]) ?_
        have hmi : (midsOf (splitB 32 t)).map readWord = o_ := by rw [ho, midsOf, show j = (splitB 32 t).length - 2 by omega]
        have he : readI t = (0, [], false) := by unfold readI; rw [if_neg h_1, hmi, if_pos (by first | exact .inl (by assumption) | exact .inr (by assumption))]
        exact ⟨none, 0, by rw [he] <;> rfl, by rw [he] <;> rfl⟩
      · skip
        refine JL.guardOn rfl rfl rfl (congrArg Value.bool (decide_eq_false h_22)) (JO.ofLO (LO.pure (PO.move (v := .int .i64 ((readDec ((splitB 32 t).getD 0 [])).1)) he_12))) ?_
        rintro _ _ ⟨rfl, rfl⟩
        refine JL.guardOn rfl rfl rfl (congrArg Value.bool (decide_eq_false h_22)) (JO.ofLO (LO.pure (PO.move (v := .slice oa o_.length oc) he_13))) ?_
        rintro _ _ ⟨rfl, rfl⟩
        refine JL.guardOn rfl rfl rfl (congrArg Value.bool (decide_eq_false h_22)) (JO.call [] Tryz.call28 rfl (Y_iRec ((readDec ((splitB 32 t).getD 0 [])).1) oa oc o_ hokl) rfl (fun w hw => hw.see (i := 0) rfl)) ?_
        rintro _ _ ⟨_, ⟨rfl, rfl⟩, rfl⟩
        refine JL.guardOn rfl rfl rfl (congrArg Value.bool (decide_eq_false h_22)) (JO.ofLO (LO.pure (PO.move (v := str t) he_8))) ?_
        rintro _ _ ⟨rfl, rfl⟩
        refine JL.guardOn rfl rfl rfl (congrArg Value.bool (decide_eq_false h_22)) (JO.ofLO (LO.pure (PO.neqS rfl rfl))) ?_
        rintro _ _ ⟨rfl, rfl⟩
        refine JL.pure rfl (PO.pickF (v := .bool (!(decide ((recText ((readDec ((splitB 32 t).getD 0 [])).1) o_) = t)))) (congrArg Value.bool (decide_eq_false h_22)) rfl) ?_
        refine JL.nil ?_
        refine JQ.seq ?_
        by_cases h_23 : (recText ((readDec ((splitB 32 t).getD 0 [])).1) o_) = t
        · skip
          refine JC.condF (congrArg Value.bool (congrArg Bool.not (decide_eq_true h_23))) ?_
          refine JC.skip ?_
          refine JQ.seq ?_
          refine JC.seq ?_
          refine JC.region ?_
          refine JL.pure rfl (PO.move (v := .int .i64 ((readDec ((splitB 32 t).getD 0 [])).1)) he_12) ?_
          refine JL.pure rfl (PO.move (v := .slice oa o_.length oc) he_13) ?_
          refine JL.pure rfl (PO.assign (v := .int .i64 ((readDec ((splitB 32 t).getD 0 [])).1)) rfl) ?_
          refine JL.pure rfl (PO.assign (v := .slice oa o_.length oc) rfl) ?_
          refine JL.pure rfl (PO.assign (v := .bool true) rfl) ?_
          refine JL.nil ?_
          refine JQ.seq ?_
          refine JC.ret ?_
          refine Done.three (.inl rfl) rfl (RV.tmp (v := .int .i64 ((readDec ((splitB 32 t).getD 0 [])).1)) rfl) (RV.tmp (v := .slice oa o_.length oc) rfl) (RV.tmp (v := .bool true) rfl) (List.sublist_append_left [rC oa oc o_] [rS a_2 c_3 (splitB 32 t)]) ?_
          have hmi : (midsOf (splitB 32 t)).map readWord = o_ := by rw [ho, midsOf, show j = (splitB 32 t).length - 2 by omega]
          have he : readI t = ((readDec ((splitB 32 t).getD 0 [])).1, o_, true) := by unfold readI; rw [if_neg h_1, hmi, if_neg (by rintro (h_ | h_) <;> simp_all)]
          exact ⟨oa, oc, by rw [he] <;> rfl, by rw [he] <;> rfl⟩
        · skip
          refine JC.condT (congrArg Value.bool (congrArg Bool.not (decide_eq_false h_23))) ?_
          refine JC.seq ?_
          refine JC.region ?_
          refine JL.pure rfl (PO.assign (v := .int .i64 0) rfl) ?_
          refine JL.pure rfl (PO.assign (v := .slice none 0 0) rfl) ?_
          refine JL.pure rfl (PO.assign (v := .bool false) rfl) ?_
          refine JL.nil ?_
          refine JQ.seq ?_
          refine JC.ret ?_
          refine JQ.thenRet ?_
          refine JQ.nilRow 48 2 ?_
          refine Done.three (.inl rfl) rfl (RV.tmp (v := .int .i64 0) rfl) (RV.tmp (v := .slice none 0 0) rfl) (RV.tmp (v := .bool false) rfl) (List.sublist_append_left [Res.row (.slice none 0 0) 48 2 0 (([] : List Cell).flatMap encC)] [rC oa oc o_, rS a_2 c_3 (splitB 32 t)]) ?_
          have hmi : (midsOf (splitB 32 t)).map readWord = o_ := by rw [ho, midsOf, show j = (splitB 32 t).length - 2 by omega]
          have he : readI t = (0, [], false) := by unfold readI; rw [if_neg h_1, hmi, if_pos (by first | exact .inl (by assumption) | exact .inr (by assumption))]
          exact ⟨none, 0, by rw [he] <;> rfl, by rw [he] <;> rfl⟩

end Go.Proofs.YtjncpgcccgdeiaaGreatDoor

set_option linter.unusedSimpArgs false
set_option linter.unusedVariables false
set_option linter.unnecessarySimpa false
namespace Go.Proofs.YtjncpgcccgdeiaaGreatDoor
open Go Go.RowKit
def sumLen (l : List Str) : Nat := l.foldr (fun x n => x.length + n) 0
theorem linesG_sum : ∀ (t b : Str), sumLen (linesG b t) ≤ b.length + t.length
  | [], b => Nat.zero_le _
  | c :: t, b => by
    unfold linesG
    split
    · have := linesG_sum t []
      simp only [sumLen, List.foldr_cons, List.length_append, List.length_cons, List.length_nil] at *
      omega
    · have := linesG_sum t (b ++ [c])
      simp only [List.length_append, List.length_cons, List.length_nil] at *
      omega
theorem linesG_mem : ∀ (t b x : Str), x ∈ linesG b t → x.length ≤ b.length + t.length
  | [], b, x, h => by cases h
  | c :: t, b, x, h => by
    unfold linesG at h
    split at h
    · rcases List.mem_cons.1 h with rfl | h
      · simp only [List.length_append, List.length_cons, List.length_nil]; omega
      · have := linesG_mem t [] x h; simp only [List.length_cons, List.length_nil] at *; omega
    · have := linesG_mem t (b ++ [c]) x h; simp only [List.length_append, List.length_cons, List.length_nil] at *; omega
theorem linesG_len : ∀ (t b : Str), (linesG b t).length ≤ t.length
  | [], b => Nat.le_refl _
  | c :: t, b => by
    unfold linesG
    split
    · have := linesG_len t []; simp only [List.length_cons]; omega
    · have := linesG_len t (b ++ [c]); simp only [List.length_cons]; omega
/-- How much of the journal a checkpoint's slot already holds. -/
def trimN (most : Int) : List Str → Nat
  | [] => 0
  | x :: l => if (readI x).2.2 = false ∨ most < (readI x).1 then 0 else x.length + trimN most l
theorem trimN_sum (most : Int) : ∀ l, trimN most l ≤ sumLen l
  | [] => Nat.le_refl _
  | x :: l => by
    have := trimN_sum most l
    unfold trimN
    simp only [sumLen, List.foldr_cons] at *
    split <;> omega
theorem trimN_le (most : Int) (t : Str) : trimN most (linesOf t) ≤ t.length := by
  have h1 := trimN_sum most (linesOf t)
  have h2 := linesG_sum t []
  simp only [List.length_nil] at h2
  unfold linesOf at *
  omega
theorem trimN_step {most : Int} {l : List Str} {i : Nat} (h : i < l.length) : trimN most (l.drop i) = if (readI (l.getD i [])).2.2 = false ∨ most < (readI (l.getD i [])).1 then 0 else (l.getD i []).length + trimN most (l.drop (i + 1)) := by
  rw [drop_at (getD_some (d := []) h), trimN]
def mostOf (d : DD) : Int := (d.slots.getD (bestD d).toNat o0.t).seq
def trimL (d : DD) : Nat := trimN (mostOf d) (linesOf d.jt)
def DD.trim (d : DD) : DD := if diskOk d = true then ⟨d.slots, d.jt.drop (trimL d), ((bro (d.js - ((trimL d : Nat) : Int)) (d.jt.drop (trimL d)).length : Nat) : Int)⟩ else d
theorem diskOk_best {d : DD} (h : diskOk d = true) : ∃ q : Nat, bestD d = ((q : Nat) : Int) ∧ q < d.slots.length := by
  unfold diskOk diskOkF at h
  simp only [Bool.and_eq_true] at h
  obtain ⟨h1, h2, _⟩ := h
  rw [← bestF_any] at h2
  have h3 := of_decide_eq_true h2
  have h4 := bestF_lo (fun i => d.slots.getD i o0.t) d.slots.length
  exact ⟨(bestD d).toNat, by unfold bestD at *; omega, by unfold bestD at *; omega⟩
theorem diskOk_jour {d : DD} (h : diskOk d = true) : jourOk d.jt d.js = true := by
  unfold diskOk diskOkF at h
  simp only [Bool.and_eq_true] at h
  exact h.2.2.2
end Go.Proofs.YtjncpgcccgdeiaaGreatDoor

set_option linter.unusedSimpArgs false
set_option linter.unusedVariables false
set_option linter.unnecessarySimpa false
namespace Go.Proofs.YtjncpgcccgdeiaaGreatDoor
open Go Go.RowKit
section
variable {P : Program} {ops : Array Oper} {Q : Exit → Act → World → Prop} {n : Nat} {w0 : World} {D : List Nat} {L : List Res} {e : Env} {ro : Option Nat} {ds : List Deferred}
def fenceR (ro : Option Nat) : Fence := { Fence.wide with round := ro }
def actD (n : Nat) (e : Env) (ds : List Deferred) : Act := { tmps := Array.ofFn (n := n) (fun i => e i.val), defers := ds }
theorem actD_eval (n : Nat) (e : Env) (ds : List Deferred) : (actD n e ds).eval = rd n e := act_eval' n e
theorem actD_put (n : Nat) (e : Env) (ds : List Deferred) (d : Option Nat) (v : Value) : (actD n e ds).put d v = actD n (updO e d v) ds := by
  have h := act_put n e d v
  cases d with
  | none => rfl
  | some d => simp only [Act.put, act, actD, updO, Act.mk.injEq, and_true] at *; exact h
def JLi (ro : Option Nat) (ds : List Deferred) (P : Program) (ops : Array Oper) (Q : Exit → Act → World → Prop) (n : Nat) (w0 : World) (D : List Nat) (L : List Res) (l : List Oper) (e : Env) : Prop :=
  ∀ w, St w0 D L w → wpListIn (fenceR ro) 0 P ops Q l (actD n e ds) w
def JCi (ro : Option Nat) (ds : List Deferred) (P : Program) (Q : Exit → Act → World → Prop) (n : Nat) (w0 : World) (D : List Nat) (L : List Res) (c : Code) (e : Env) : Prop :=
  ∀ w, St w0 D L w → c.wpIn (fenceR ro) 0 P Q (actD n e ds) w
def JQi (ds : List Deferred) (Q : Exit → Act → World → Prop) (x : Exit) (n : Nat) (w0 : World) (D : List Nat) (L : List Res) (e : Env) : Prop :=
  ∀ w, St w0 D L w → Q x (actD n e ds) w
def plainO (o : Oper) : Bool := o.guard.isNone && (match o.op with | .defer _ => false | _ => true)
theorem JO.into {o : Oper} {Φ : Value → List Res → Prop} (hp : plainO o = true) (h : JO P n w0 D L e o Φ) {w : World} (hw : St w0 D L w) {K : Act → World → Prop} {Q : Exit → Act → World → Prop}
    (hK : ∀ v L' w', Φ v L' → St w0 D L' w' → K (actD n (updO e o.dst v) ds) w') : o.wpIn (fenceR ro) 0 P (actD n e ds) w K Q := by
  have h1 := h w hw (fun a w' => a.defers = [] ∧ K { a with defers := ds } w') (fun _ _ _ => False) (fun v L' w' hΦ hw' => ⟨rfl, hK v L' w' hΦ hw'⟩)
  have hsem : o.semAt (fenceR ro).round (actD n e ds).eval = execOp (act n e).eval o := by
    rw [actD_eval, act_eval', Oper.semAt_eq _ _ _ (fun c hc => by simp [plainO, hc] at hp)]
  unfold Oper.wp at h1
  unfold Oper.wpIn
  rw [hsem]
  refine ⟨fun _ _ => trivial, ?_⟩
  have hput : ∀ (u : Value), ({ (act n e).put o.dst u with defers := ds } : Act) = (actD n e ds).put o.dst u := fun u => by rw [act_put, actD_put]; rfl
  generalize (execOp (act n e).eval o).run P w = r at h1 ⊢
  cases r with
  | halt h w' => cases h <;> exact absurd h1 (by simp [Oper.upon])
  | ok v w' =>
    cases v with
    | value v => have := h1.2; rw [hput] at this; exact this
    | skip => have := h1.2; rw [hput] at this; exact this
    | defer d => exact absurd h1.1 (by cases o.dst <;> simp [Act.put])
    | enter f args =>
      refine ⟨fun h => by simp [fenceR, Fence.wide] at h, ?_⟩
      have h2 : CallsIn Fence.wide 0 P f args w' _ := callsIn_wide.2 h1
      refine CallsIn.mono (F := fenceR ro) (n := 0) h2 fun en w'' hen => ?_
      cases en with
      | returned v => have := hen.2; rw [hput] at this; exact this
      | panicked ch => exact hen.elim
      | outgrown => obtain ⟨_, _, h⟩ := hen; exact h.elim
    | row rw_ args =>
      refine ⟨fun h => by simp [fenceR, Fence.wide] at h, ?_⟩
      intro c cs _
      obtain ⟨v, w'', hR, hs⟩ := h1 c cs
      have := hR.2
      rw [hput] at this
      exact ⟨v, w'', this, stepsIn_wide.2 hs⟩
    | _ => exact h1.elim
theorem JLi.nil (h : JQi ds Q .normal n w0 D L e) : JLi ro ds P ops Q n w0 D L [] e := fun w hw => h w hw
theorem plainO_guard {o : Oper} (h : plainO o = true) : o.guard = none := by
  simp only [plainO, Bool.and_eq_true, Option.isNone_iff_eq_none] at h
  exact h.1
theorem JLi.op {o : Oper} {rest : List Oper} {Φ : Value → List Res → Prop} (hg : plainO o = true) (ho : JO P n w0 D L e o Φ)
    (h : ∀ v L', Φ v L' → JLi ro ds P ops Q n w0 D L' rest (updO e o.dst v)) : JLi ro ds P ops Q n w0 D L (o :: rest) e := fun w hw =>
  wpListIn_plain (plainO_guard hg) fun K hK => JO.into hg ho hw fun v L' w' hΦ hw' => hK _ _ (h v L' hΦ w' hw')
theorem JLi.pure {o : Oper} {rest : List Oper} {v : Value} (hg : plainO o = true) (ho : PO P n e o v)
    (h : JLi ro ds P ops Q n w0 D L rest (updO e o.dst v)) : JLi ro ds P ops Q n w0 D L (o :: rest) e :=
  JLi.op hg (JO.pure fun _ => ho) fun _ _ ⟨hv, hL⟩ => by subst hv; subst hL; exact h
theorem JLi.ld {o : Oper} {rest : List Oper} {v : Value} (hg : plainO o = true) (ho : LO P n w0 D L e o v)
    (h : JLi ro ds P ops Q n w0 D L rest (updO e o.dst v)) : JLi ro ds P ops Q n w0 D L (o :: rest) e :=
  JLi.op hg (JO.ofLO ho) fun _ _ ⟨hv, hL⟩ => by subst hv; subst hL; exact h
theorem JLi.facts {l : List Oper} (h : (∃ w, St w0 D L w) → JLi ro ds P ops Q n w0 D L l e) : JLi ro ds P ops Q n w0 D L l e := fun w hw => h ⟨w, hw⟩ w hw
theorem JCi.region {id : Nat} {l : List Oper} (h : JLi ro ds P l.toArray Q n w0 D L l e) : JCi ro ds P Q n w0 D L (.region id l.toArray false) e := fun w hw => wpIn_region_lit (h w hw)
theorem JCi.seq {x y : Code} (h : JCi ro ds P (Exit.then (y.wpIn (fenceR ro) 0 P Q) Q) n w0 D L x e) : JCi ro ds P Q n w0 D L (.seq x y) e := fun w hw => wpIn_seq (h w hw)
theorem JQi.seq {y : Code} (h : JCi ro ds P Q n w0 D L y e) : JQi ds (Exit.then (y.wpIn (fenceR ro) 0 P Q) Q) .normal n w0 D L e := fun w hw => h w hw
theorem JCi.skip (h : JQi ds Q .normal n w0 D L e) : JCi ro ds P Q n w0 D L .skip e := fun w hw => wpIn_skip (h w hw)
theorem JCi.ret (h : JQi ds Q .ret n w0 D L e) : JCi ro ds P Q n w0 D L .ret e := fun w hw => wpIn_ret (h w hw)
theorem JCi.block {id : Nat} {c : Code} (h : JCi ro ds P (Exit.inBlock id Q) n w0 D L c e) : JCi ro ds P Q n w0 D L (.block id c) e := fun w hw => wpIn_block (h w hw)
theorem JQi.blockN {id : Nat} (h : JQi ds Q .normal n w0 D L e) : JQi ds (Exit.inBlock id Q) .normal n w0 D L e := fun w hw => h w hw
theorem JCi.condT {c : Operand} {x y : Code} (hc : rd n e c = .bool true) (h : JCi ro ds P Q n w0 D L x e) : JCi ro ds P Q n w0 D L (.cond c x y) e := fun w hw => wpIn_cond_true (by rw [actD_eval]; exact hc) (h w hw)
theorem JCi.condF {c : Operand} {x y : Code} (hc : rd n e c = .bool false) (h : JCi ro ds P Q n w0 D L y e) : JCi ro ds P Q n w0 D L (.cond c x y) e := fun w hw => wpIn_cond_false (by rw [actD_eval]; exact hc) (h w hw)
/-- A region with a call of yield, in the plain walk. -/
theorem JC.regionI {id : Nat} {l : List Oper} (h : JLi none [] P l.toArray Q n w0 D L l e) : JC P Q n w0 D L (.region id l.toArray false) e := fun w hw => (wpIn_wide (n := 0)).1 (wpIn_region_lit (h w hw))
/-- One block turned for another. -/
theorem St.putObj {i b : Nat} {o : Obj} {w : World} (h : St w0 D L w) (hL : L[i]? = some (.blk b o)) (o' : Obj) : St w0 D (L.set i (.blk b o')) (w.putObj b o') := by
  have hb : w.heap[b]? = some o := h.get hL
  have hlt := (Array.getElem?_eq_some_iff.1 hb).1
  refine h.turn1 hL rfl rfl rfl (by simp) (fun k _ hk => ?_) (World.putObj_heap_same hlt) (by simp [Res.ids]) (fun i hi => .inl hi)
  simp only [Res.ids, List.mem_singleton] at hk
  exact World.putObj_heap_other hk
/-- What a round is told: it hands back 'go on' and leaves such resources. -/
def Round (P : Program) (l : Nat) (v : Value) (w0 : World) (D : List Nat) (L : List Res) (Ψ : List Res → Prop) : Prop :=
  ∀ w, St w0 D L w → ∃ fn tmps assign body, (Instr.yield l #[v]).run P w = .ok (.round l fn tmps assign body) w ∧
    RoundIn Fence.wide 0 P l fn tmps assign body w (fun en w' => en = .returned (.bool true) ∧ ∃ L', Ψ L' ∧ St w0 D L' w')
theorem JLi.yield {l : Nat} {v : Value} {x y : Operand} {ats : Array TypeId} {d : Option Tmp} {ty : TypeId} {pos : String} {aft : Array Edge} {rest : List Oper} {Ψ : List Res → Prop} (hx : rd n e x = .func (.yield l) #[] #[]) (hy : rd n e y = v)
    (hr : Round P l v w0 D L Ψ) (h : ∀ L', Ψ L' → JLi none ds P ops Q n w0 D L' rest (updO e d (.bool true))) :
    JLi none ds P ops Q n w0 D L (⟨d, .call ⟨.value x, #[y], ats⟩, ty, pos, aft, none⟩ :: rest) e := fun w hw => by
  refine wpListIn_plain rfl fun K hK => ?_
  obtain ⟨fn, tmps, assign, body, hyl, hR⟩ := hr w hw
  have hrun : (execOp (rd n e) ⟨d, .call ⟨.value x, #[y], ats⟩, ty, pos, aft, none⟩).run P w = .ok (.round l fn tmps assign body) w := by
    simp [execOp, resolve, Deferred.ofValue, hx, hy, invoke, hyl]
  unfold Oper.wpIn
  refine ⟨fun _ _ => trivial, ?_⟩
  rw [show (fenceR none).round = none from rfl, Oper.semAt_none, actD_eval, hrun]
  refine ⟨fun h => by simp [fenceR, Fence.wide] at h, RoundIn.mono (F := Fence.wide) (n := 0) hR fun en w' hen => ?_⟩
  obtain ⟨rfl, L', hΨ, hw'⟩ := hen
  show K _ _
  rw [actD_put]
  exact hK _ _ (h L' hΨ w' hw')
/-- The left side is set, the record is ready: the round begins; at its end the record is ready anew. -/
theorem JQi.begin {i l : Nat} {r : Loop} {R : Ending → World → Prop} {body : Code} {ff : Exit → Act → World → Prop} (hL : L[i]? = some (.blk l (.loop r))) (hs : r.state = .ready)
    (h : JCi (some l) [] P (roundPost P l R) n w0 D (L.set i (.blk l (.loop { r with state := .busy }))) body e) :
    JQi [] (Exit.then (fun a₁ w₁ => ∃ w₂, (Instr.beginRound l).run P w₁ = .ok () w₂ ∧ body.wpIn (Fence.wide.inRound l) 0 P (roundPost P l R) a₁ w₂) ff) .normal n w0 D L e := fun w hw =>
  ⟨_, run_beginRound (hw.get hL) hs, h _ (hw.putObj hL _)⟩
theorem loop_back {r : Loop} (hs : r.state = .ready) (hp : r.pending = none) : ({ ({ r with state := .busy } : Loop) with state := .ready, pending := none } : Loop) = r := by
  cases r
  simp_all
theorem JQi.endr {i l : Nat} {r : Loop} {Ψ : List Res → Prop} (hL : L[i]? = some (.blk l (.loop { r with state := .busy }))) (hs : r.state = .ready) (hp : r.pending = none) (h : Ψ (L.set i (.blk l (.loop r)))) :
    JQi [] (roundPost P l (fun en w' => en = .returned (.bool true) ∧ ∃ L', Ψ L' ∧ St w0 D L' w')) .normal n w0 D L e := fun w hw => by
  have h1 := hw.putObj hL (.loop r)
  have h2 := run_endRound (P := P) none (hw.get hL)
  refine ⟨_, _, h2, rfl, _, h, ?_⟩
  have e2 := loop_back hs hp
  simp only [Option.isNone_none, if_true]
  rw [e2]
  exact h1
theorem Round.of {i l t : Nat} {r : Loop} {v : Value} {Ψ : List Res → Prop} {assign body : Code} (hL : L[i]? = some (.blk l (.loop r))) (hp : r.params = #[t]) (ht : r.tmps = (act n e).tmps) (ha : r.assign = assign) (hb : r.body = body)
    (h : JCi (some l) [] P (Exit.then (fun a₁ w₁ => ∃ w₂, (Instr.beginRound l).run P w₁ = .ok () w₂ ∧ body.wpIn (Fence.wide.inRound l) 0 P (roundPost P l (fun en w' => en = .returned (.bool true) ∧ ∃ L', Ψ L' ∧ St w0 D L' w')) a₁ w₂) (fun _ _ _ => False)) n w0 D L assign (updO e (some t) v)) :
    Round P l v w0 D L Ψ := fun w hw => by
  refine ⟨r.fn, _, r.assign, r.body, run_yield (hw.get hL) (by rw [hp]; rfl), roundIn_of_wpIn trivial ?_⟩
  have e1 : (r.params.zip #[v]).foldl (fun tmps (t, a) => tmps.setIfInBounds t a) r.tmps = (actD n (updO e (some t) v) []).tmps := by
    have := congrArg Act.tmps (act_put n e (some t) v)
    rw [hp, ht]
    have h2 : (act n (updO e (some t) v)).tmps = (actD n (updO e (some t) v) []).tmps := rfl
    rw [← h2]
    simpa [Act.put] using this
  rw [e1, ha, hb]
  exact h w hw
theorem Round.swap {l : Nat} {v : Value} {B : List Res} {R : List Res → Prop} (h : Round P l v w0 D (L ++ B) (fun L' => ∃ L1, R L1 ∧ L' = L1 ++ B)) : Round P l v w0 D (B ++ L) (fun L' => ∃ L1, R L1 ∧ L' = B ++ L1) := fun w hw => by
  obtain ⟨fn, tmps, assign, body, hy, hR⟩ := h w (hw.perm List.perm_append_comm)
  refine ⟨fn, tmps, assign, body, hy, RoundIn.mono hR fun en w' hen => ?_⟩
  obtain ⟨rfl, L', ⟨L1, h1, rfl⟩, hw'⟩ := hen
  exact ⟨rfl, _, ⟨L1, h1, rfl⟩, hw'.perm List.perm_append_comm⟩
/-- Behind the statement, in what was begun as a plain walk. -/
theorem JQi.seqW {y : Code} (h : JCi none ds P Q n w0 D L y e) : JQi ds (Exit.then (y.wp P Q) Q) .normal n w0 D L e := fun w hw => (wpIn_wide (n := 0)).1 (h w hw)
theorem JQi.ofQ {x : Exit} (h : JQ Q x n w0 D L e) : JQi [] Q x n w0 D L e := h
theorem JQi.sub {x : Exit} {L' : List Res} (hL : L'.Sublist L) (h : JQi ds Q x n w0 D L' e) : JQi ds Q x n w0 D L e := fun w hw => h w (hw.sub hL)
/-- The statement. -/
def recOf (fn : FuncId) (tmps : Array Value) (ps : Array Tmp) (assign body : Code) (bd : Nat) : Loop := { state := .ready, pending := none, fn := fn, tmps := tmps, params := ps, assign := assign, body := body, defers := bd }
def markOf (bd : Nat) : Deferred := { target := .collected bd, args := #[] }
theorem rangeFuncC {g : Operand} {ps : Array Tmp} {assign body : Code} {gf : FuncId} {lb : List Value} (hg : rd n e g = .func (.func gf) #[] lb.toArray) (hc : ∀ args w, (callFunc gf args).run P w = .ok (.enter gf args) w)
    (h : ∀ (bd l : Nat) (rc : Loop), rc.state = .ready → rc.pending = none → rc.params = ps → rc.tmps = (act n e).tmps → rc.assign = assign → rc.body = body → ∃ (is : List Nat) (A F : List Res) (Pre : World → Prop) (Post : Value → List Res → Prop),
      pick is (.blk l (.loop rc) :: .blk bd (.deferred (some [])) :: L) = some (A, F) ∧ Ct P gf (.func (.yield l) #[] #[] :: lb) A Pre Post ∧
      (∀ w, St w0 D (.blk l (.loop rc) :: .blk bd (.deferred (some [])) :: L) w → Pre w) ∧
      ∀ v A', Post v A' → ∃ (j : Nat) (r : Loop), (A' ++ F)[j]? = some (.blk l (.loop r)) ∧ r.state = .ready ∧ r.pending = none ∧ JQi [markOf bd] Q .normal n w0 D ((A' ++ F).set j (.blk l (.loop { r with state := .exhausted }))) e) :
    JC P Q n w0 D L (.rangeFunc g ps assign body) e := fun w hw => (wpIn_wide (n := 0)).1 <| by
  refine wpIn_rangeFunc fun fn _ => ?_
  obtain ⟨is, A, F, Pre, Post, hp, hct, hpre, hpost⟩ := h w.heap.size (w.heap.size + 1) (recOf fn (act n e).tmps ps assign body w.heap.size) rfl rfl rfl rfl rfl rfl
  have s1 := hw.alloc (.deferred (some []))
  have s2 := s1.alloc (.loop (recOf fn (act n e).tmps ps assign body w.heap.size))
  rw [World.size_alloc] at s2
  have hperm := pick_perm is hp
  have hA : Has A _ := ((s2.perm hperm.symm).sub (List.sublist_append_left _ _)).toHas
  refine ⟨w.heap.size + 1, [markOf w.heap.size], (w.alloc (.deferred (some []))).alloc (.loop (recOf fn (act n e).tmps ps assign body w.heap.size)), { target := .fn (.func gf) lb.toArray, args := #[.func (.yield (w.heap.size + 1)) #[] #[]] }, (w.alloc (.deferred (some []))).alloc (.loop (recOf fn (act n e).tmps ps assign body w.heap.size)), gf,
    #[.func (.yield (w.heap.size + 1)) #[] #[]] ++ lb.toArray, (w.alloc (.deferred (some []))).alloc (.loop (recOf fn (act n e).tmps ps assign body w.heap.size)), ?_, ?_, fun _ _ => trivial, ?_, fun h => by simp [Fence.wide] at h, ?_⟩
  · exact run_enterLoop_outer _ _ _ _ _
  · have he : (act n e).eval g = .func (.func gf) #[] lb.toArray := by rw [act_eval]; exact hg
    simp only [resolve, rangeCall, Deferred.ofValue]
    rw [he]
    simp [go_sem]
  · simp [invoke, hc]
  · refine callsIn_wide.2 ?_
    have := hct _ hA (hpre _ s2)
    rw [show ((Value.func (.yield (w.heap.size + 1)) #[] #[] :: lb).toArray) = #[.func (.yield (w.heap.size + 1)) #[] #[]] ++ lb.toArray by simp] at this
    refine this.mono fun en w' hen => ?_
    obtain ⟨v, A', rfl, hq, hst⟩ := hen
    have s3 := s2.turn hperm hst.os hst.tape hst.output hst.size hst.keep hst.holds hst.nodup hst.fresh
    obtain ⟨j, r, hj, hs, hpd, hQ⟩ := hpost v A' hq
    refine ⟨none, _, (run_endLoop (s3.get hj) (by rw [hs]; simp)).trans (by rw [hpd]), hQ _ (s3.putObj hj _)⟩
/-- A function that holds one. -/
theorem Ct.introM {f : FuncId} {fn : Func} {c : Code} {args : List Value} {A : List Res} {Pre : World → Prop} {Post : Value → List Res → Prop}
    (hf : P.funcs[f]? = some fn) (hb : fn.body = some c) (hn : fn.ntmps = n) (hle : args.length ≤ n)
    (h : ∀ w0, Pre w0 → JC P (bodyPostM Fence.wide 0 P fn (Done w0 (idsOf A) Post)) n w0 (idsOf A) A c (argEnv args)) : Ct P f args A Pre Post := fun w hA hpre => by
  refine callsIn_wide.1 (callsIn_of_wp_marks (n := 0) hf hb trivial ((wpIn_wide (n := 0)).2 ?_))
  rw [hn, act_args n args hle]
  exact h w hpre w (St.start hA)
theorem JQi.retM {fn : Func} {Post : Value → List Res → Prop} {j bd : Nat} (hL : L[j]? = some (.blk bd (.deferred (some [])))) (h : JQ (bodyPost P fn (Done w0 D Post)) .ret n w0 D (L.set j (.blk bd (.deferred none))) e) :
    JQi [markOf bd] (bodyPostM Fence.wide 0 P fn (Done w0 D Post)) .ret n w0 D L e := fun w hw => by
  obtain ⟨_, v, hv, hd⟩ := h _ (hw.putObj hL (.deferred none))
  exact ⟨by simp, .inl ⟨bd, _, rfl, run_takeDeferred (hw.get hL), v, hv, hd⟩⟩
end
end Go.Proofs.YtjncpgcccgdeiaaGreatDoor

set_option linter.unusedSimpArgs false
set_option linter.unusedVariables false
set_option linter.unnecessarySimpa false
namespace Go.Proofs.YtjncpgcccgdeiaaGreatDoor
open Go Go.RowKit
attribute [local irreducible] JL JC JQ JO LO PO JA JX Ct JLi JCi JQi

set_option maxRecDepth 4000 in
set_option maxHeartbeats 1000000 in
theorem Y_iter (l : Nat) (J : List Str → List Res → Prop) (s : Str) (hs : s.length ≤ 100000000) (b1 b2 b3 : Nat) (L0 : List Res) (hround : ∀ (w0 : World) (D : List Nat) (B : List Res) (pre : List Str) (x : Str) (L : List Res), J pre L → Lib.hasSuffix x [10] = true → x.length ≤ 100000000 → pre.length ≤ 100000000 → Round Tryz.prog l (str x) w0 D (L ++ B) (fun L' => ∃ L1, J (pre ++ [x]) L1 ∧ L' = L1 ++ B)) (hlast : ∀ (w0 : World) (D : List Nat) (B : List Res) (pre : List Str) (x : Str) (L : List Res), J pre L → Lib.hasSuffix x [10] = false → x.length ≤ 100000000 → pre.length ≤ 100000000 → Round Tryz.prog l (str x) w0 D (L ++ B) (fun L' => ∃ L1, J pre L1 ∧ L' = L1 ++ B)) (h0 : J [] L0) :
    Ct Tryz.prog 162 [.func (.yield l) #[] #[], .pointer (some ⟨b1, 0, none⟩), .pointer (some ⟨b2, 0, none⟩), .pointer (some ⟨b3, 0, none⟩)] ([bk b1 9 [str [10]], bk b2 9 [str s], bk b3 3 [.int .i64 1]] ++ L0) (fun _ => True) (fun v A' => ∃ L1, J (linesOf s) L1 ∧ A' = L1) := by
  refine Ct.intro Tryz.func162 rfl Tryz.ntmps162 (Nat.le_of_ble_eq_true rfl) fun w0 hpre => ?_
  refine JC.seq ?_
  refine JC.seq ?_
  refine JC.region ?_
  refine JL.ld rfl (LO.load1 0 (v := str [10]) rfl rfl Tryz.isAgg9 rfl) ?_
  refine JL.pure rfl (show PO _ _ _ _ (.int .i64 ((1 : Nat) : Int)) from PO.lenS (a := [10]) Tryz.underlying9 rfl) ?_
  refine JL.pure rfl (PO.eqlI rfl rfl) ?_
  refine JL.nil ?_
  refine JQ.seq ?_
  have h_1 : ¬ (((1 : Nat) : Int) = 0) := (by decide)
  refine JC.condF (congrArg Value.bool (decide_eq_false h_1)) ?_
  refine JC.skip ?_
  refine JQ.seq ?_
  refine JC.seq ?_
  refine JC.block ?_
  refine JC.loop (fun k_ e_ L_ => ∃ pre : List Str, ∃ s_ : Str, ∃ LJ : List Res, (pre ++ linesOf s_ = linesOf s) ∧ (s_.length ≤ s.length) ∧ (J pre LJ) ∧ e_ 0 = .func (.yield l) #[] #[] ∧ e_ 1 = .pointer (some ⟨b1, 0, none⟩) ∧ e_ 2 = .pointer (some ⟨b2, 0, none⟩) ∧ e_ 3 = .pointer (some ⟨b3, 0, none⟩) ∧ L_ = ([bk b1 9 [str [10]], bk b2 9 [str s_], bk b3 3 [.int .i64 1]] ++ LJ) ∧ k_ = s_.length) _ ⟨[], s, L0, rfl, by omega, h0, rfl, rfl, rfl, rfl, rfl, rfl⟩ ?_
  rintro _ e_2 _ ⟨pre, s_, LJ, hR, hl_, hJ, he_3, he_4, he_5, he_6, rfl, rfl⟩
  refine JC.block ?_
  refine JC.seq ?_
  refine JC.region ?_
  refine JL.ld rfl (LO.load1 1 (v := str s_) rfl he_5 Tryz.isAgg9 rfl) ?_
  refine JL.ld rfl (LO.load1 0 (v := str [10]) rfl he_4 Tryz.isAgg9 rfl) ?_
  refine JL.op rfl (JO.call [] Tryz.call164 rfl (C_ix s_ 10) rfl (fun _ _ => trivial)) ?_
  rintro _ _ ⟨_, ⟨rfl, (⟨rfl, hn_11⟩ | ⟨i_7, rfl, hi_8, hf_9, hc_10⟩)⟩, rfl⟩
  · skip
    refine JL.pure rfl (PO.assign (v := .int .i64 (-1)) rfl) ?_
    refine JL.nil ?_
    refine JQ.seq ?_
    refine JC.seq ?_
    refine JC.seq ?_
    refine JC.region ?_
    refine JL.pure rfl (PO.move (v := .int .i64 (-1)) rfl) ?_
    refine JL.pure rfl (PO.lss rfl rfl) ?_
    refine JL.nil ?_
    refine JQ.seq ?_
    have h_12 : (-1) < 0 := (by decide)
    refine JC.condT (congrArg Value.bool (decide_eq_true h_12)) ?_
    refine JC.exit ?_
    refine JQ.thenExit ?_
    refine JQ.blockO rfl ?_
    refine JQ.thenExit ?_
    refine JQ.blockE ?_
    refine JQ.seq ?_
    refine JC.regionI ?_
    refine JLi.pure rfl (PO.move (v := .func (.yield l) #[] #[]) he_3) ?_
    refine JLi.ld rfl (LO.load1 1 (v := str s_) rfl he_5 Tryz.isAgg9 rfl) ?_
    refine JLi.yield (Ψ := fun L_ => ∃ L1, J (pre) L1 ∧ L_ = [bk b1 9 [str [10]], bk b2 9 [str s_], bk b3 3 [.int .i64 1]] ++ L1) rfl rfl (Round.swap (hlast _ _ _ pre s_ LJ hJ (suffix_none hn_11) (by omega) (by have h_ := congrArg List.length hR; have h2_ := linesG_len s []; simp only [List.length_append, linesOf] at *; omega))) ?_
    rintro _ ⟨LJ_13, hJ_14, rfl⟩
    refine JLi.nil ?_
    refine JQi.ofQ ?_
    refine Done.none (A' := LJ_13) (.inr rfl) rfl (List.sublist_append_right _ _) ?_
    exact ⟨LJ_13, by rw [lines_no hn_11, List.append_nil] at hR; rw [← hR]; exact hJ_14, rfl⟩
  · skip
    refine JL.pure rfl (PO.assign (v := .int .i64 ((i_7 : Nat) : Int)) rfl) ?_
    refine JL.nil ?_
    refine JQ.seq ?_
    refine JC.seq ?_
    refine JC.seq ?_
    refine JC.region ?_
    refine JL.pure rfl (PO.move (v := .int .i64 ((i_7 : Nat) : Int)) rfl) ?_
    refine JL.pure rfl (PO.lss rfl rfl) ?_
    refine JL.nil ?_
    refine JQ.seq ?_
    have h_15 : ¬ (((i_7 : Nat) : Int) < 0) := (by omega)
    refine JC.condF (congrArg Value.bool (decide_eq_false h_15)) ?_
    refine JC.skip ?_
    refine JQ.seq ?_
    refine JC.seq ?_
    refine JC.region ?_
    refine JL.ld rfl (LO.load1 1 (v := str s_) rfl he_5 Tryz.isAgg9 rfl) ?_
    refine JL.pure rfl (PO.move (v := .int .i64 ((i_7 : Nat) : Int)) rfl) ?_
    refine JL.ld rfl (LO.load1 2 (v := .int .i64 1) rfl he_6 Tryz.isAgg3 rfl) ?_
    refine JL.pure rfl (PO.add (c := ((i_7 + 1 : Nat) : Int)) rfl rfl (wr (by omega))) ?_
    refine JL.pure rfl (PO.sliceSh (j := (i_7 + 1)) Tryz.underlying9 rfl rfl (by omega)) ?_
    refine JL.pure rfl (PO.assign (v := str (s_.take (i_7 + 1))) rfl) ?_
    refine JL.nil ?_
    refine JQ.seq ?_
    refine JC.seq ?_
    refine JC.seq ?_
    refine JC.regionI ?_
    refine JLi.pure rfl (PO.move (v := .func (.yield l) #[] #[]) he_3) ?_
    refine JLi.pure rfl (PO.move (v := str (s_.take (i_7 + 1))) rfl) ?_
    refine JLi.yield (Ψ := fun L_ => ∃ L1, J (pre ++ [s_.take (i_7 + 1)]) L1 ∧ L_ = [bk b1 9 [str [10]], bk b2 9 [str s_], bk b3 3 [.int .i64 1]] ++ L1) rfl rfl (Round.swap (hround _ _ _ pre (s_.take (i_7 + 1)) LJ hJ (suffix_line hi_8 hc_10) (by rw [List.length_take]; omega) (by have h_ := congrArg List.length hR; have h2_ := linesG_len s []; simp only [List.length_append, linesOf] at *; omega))) ?_
    rintro _ ⟨LJ_16, hJ_17, rfl⟩
    refine JLi.pure rfl (PO.not rfl) ?_
    refine JLi.nil ?_
    refine JQi.ofQ ?_
    refine JQ.seq ?_
    refine JC.condF (congrArg Value.bool rfl) ?_
    refine JC.skip ?_
    refine JQ.seq ?_
    refine JC.region ?_
    refine JL.ld rfl (LO.load1 1 (v := str s_) rfl he_5 Tryz.isAgg9 rfl) ?_
    refine JL.pure rfl (PO.move (v := .int .i64 ((i_7 : Nat) : Int)) rfl) ?_
    refine JL.ld rfl (LO.load1 0 (v := str [10]) rfl he_4 Tryz.isAgg9 rfl) ?_
    refine JL.pure rfl (show PO _ _ _ _ (.int .i64 ((1 : Nat) : Int)) from PO.lenS (a := [10]) Tryz.underlying9 rfl) ?_
    refine JL.pure rfl (PO.add (c := ((i_7 + 1 : Nat) : Int)) rfl rfl (wr (by omega))) ?_
    refine JL.pure rfl (PO.sliceSl (i := (i_7 + 1)) Tryz.underlying9 rfl rfl (by omega)) ?_
    refine JL.op rfl (JO.store 1 (vs := [str (s_.drop (i_7 + 1))]) (cs' := [str (s_.drop (i_7 + 1))]) rfl he_5 rfl rfl Tryz.sizeOf9 rfl rfl (Nat.le_of_ble_eq_true rfl) rfl) ?_
    rintro _ _ rfl
    refine JL.nil ?_
    refine JQ.blockN ?_
    have hdl_ : (s_.drop (i_7 + 1)).length = s_.length - (i_7 + 1) := List.length_drop
    refine JQ.again ((s_.drop (i_7 + 1)).length) (by omega) ⟨(pre ++ [s_.take (i_7 + 1)]), s_.drop (i_7 + 1), LJ_16, (by rw [List.append_assoc]; rw [lines_first hi_8 hf_9 hc_10] at hR; exact hR), (by rw [List.length_drop]; omega), hJ_17, he_3, he_4, he_5, he_6, rfl, rfl⟩

theorem Y_sseq (s : Str) :
    Ct Tryz.prog 142 [str s, str [10], .int .i64 1] [] (fun _ => True) (fun v A' => ∃ b1 b2 b3 : Nat, v = .func (.func 162) #[] #[.pointer (some ⟨b1, 0, none⟩), .pointer (some ⟨b2, 0, none⟩), .pointer (some ⟨b3, 0, none⟩)] ∧ A' = [bk b1 9 [str [10]], bk b2 9 [str s], bk b3 3 [.int .i64 1]]) := by
  refine Ct.intro Tryz.func142 rfl Tryz.ntmps142 (Nat.le_of_ble_eq_true rfl) fun w0 hpre => ?_
  refine JC.seq ?_
  refine JC.region ?_
  refine JL.op rfl (JO.box (cs := [str s]) rfl rfl) ?_
  rintro _ _ ⟨b_1, rfl, rfl⟩
  refine JL.op rfl (JO.box (cs := [str [10]]) rfl rfl) ?_
  rintro _ _ ⟨b_2, rfl, rfl⟩
  refine JL.op rfl (JO.box (cs := [.int .i64 1]) rfl rfl) ?_
  rintro _ _ ⟨b_3, rfl, rfl⟩
  refine JL.pure rfl (PO.assign (v := .nilFunc) rfl) ?_
  refine JL.nil ?_
  refine JQ.seq ?_
  refine JC.seq ?_
  refine JC.region ?_
  refine JL.pure rfl (PO.makeFunc (fv := []) (cv := [.pointer (some ⟨b_2, 0, none⟩), .pointer (some ⟨b_1, 0, none⟩), .pointer (some ⟨b_3, 0, none⟩)]) rfl rfl) ?_
  refine JL.pure rfl (PO.assign (v := .func (.func 162) #[] #[.pointer (some ⟨b_2, 0, none⟩), .pointer (some ⟨b_1, 0, none⟩), .pointer (some ⟨b_3, 0, none⟩)]) rfl) ?_
  refine JL.nil ?_
  refine JQ.seq ?_
  refine JC.ret ?_
  refine JQ.perm (pick_perm [1, 1, 0] (A := [bk b_2 9 [str [10]], bk b_1 9 [str s], bk b_3 3 [.int .i64 1]]) (F := []) rfl).symm ?_
  refine Done.one (.inl rfl) rfl (RV.tmp (v := .func (.func 162) #[] #[.pointer (some ⟨b_2, 0, none⟩), .pointer (some ⟨b_1, 0, none⟩), .pointer (some ⟨b_3, 0, none⟩)]) rfl) (List.sublist_append_left [bk b_2 9 [str [10]], bk b_1 9 [str s], bk b_3 3 [.int .i64 1]] []) ?_
  exact ⟨b_2, b_1, b_3, rfl, rfl⟩

theorem Y_saft (s : Str) :
    Ct Tryz.prog 110 [str s, str [10]] [] (fun _ => True) (fun v A' => ∃ b1 b2 b3 : Nat, v = .func (.func 162) #[] #[.pointer (some ⟨b1, 0, none⟩), .pointer (some ⟨b2, 0, none⟩), .pointer (some ⟨b3, 0, none⟩)] ∧ A' = [bk b1 9 [str [10]], bk b2 9 [str s], bk b3 3 [.int .i64 1]]) := by
  refine Ct.intro Tryz.func110 rfl Tryz.ntmps110 (Nat.le_of_ble_eq_true rfl) fun w0 hpre => ?_
  refine JC.seq ?_
  refine JC.region ?_
  refine JL.pure rfl (PO.assign (v := .nilFunc) rfl) ?_
  refine JL.nil ?_
  refine JQ.seq ?_
  refine JC.seq ?_
  refine JC.region ?_
  refine JL.pure rfl (PO.move (v := str s) rfl) ?_
  refine JL.pure rfl (PO.move (v := str [10]) rfl) ?_
  refine JL.pure rfl (PO.move (v := str [10]) rfl) ?_
  refine JL.pure rfl (show PO _ _ _ _ (.int .i64 ((1 : Nat) : Int)) from PO.lenS (a := [10]) Tryz.underlying9 rfl) ?_
  refine JL.op rfl (JO.call [] Tryz.call142 rfl (Y_sseq s) rfl (fun _ _ => trivial)) ?_
  rintro _ _ ⟨_, ⟨b_1, b_2, b_3, rfl, rfl⟩, rfl⟩
  refine JL.pure rfl (PO.assign (v := .func (.func 162) #[] #[.pointer (some ⟨b_1, 0, none⟩), .pointer (some ⟨b_2, 0, none⟩), .pointer (some ⟨b_3, 0, none⟩)]) rfl) ?_
  refine JL.nil ?_
  refine JQ.seq ?_
  refine JC.ret ?_
  refine Done.one (.inl rfl) rfl (RV.tmp (v := .func (.func 162) #[] #[.pointer (some ⟨b_1, 0, none⟩), .pointer (some ⟨b_2, 0, none⟩), .pointer (some ⟨b_3, 0, none⟩)]) rfl) (List.Sublist.refl _) ?_
  exact ⟨b_1, b_2, b_3, rfl, rfl⟩

set_option maxRecDepth 4000 in
set_option maxHeartbeats 1000000 in
theorem Y_iLines (s : Str) (hs : s.length ≤ 100000000) :
    Ct Tryz.prog 63 [str s] [] (fun _ => True) (fun v A' => ∃ a c, v = .slice a (linesOf s).length c ∧ A' = [.row (.slice a (linesOf s).length c) 9 1 (linesOf s).length ((linesOf s).map str)]) := by
  refine Ct.introM Tryz.func63 rfl Tryz.ntmps63 (Nat.le_of_ble_eq_true rfl) fun w0 hpre => ?_
  refine JC.seq ?_
  refine JC.region ?_
  refine JL.pure rfl (PO.assign (v := .slice none 0 0) rfl) ?_
  refine JL.nil ?_
  refine JQ.seq ?_
  refine JC.seq ?_
  refine JC.region ?_
  refine JL.op rfl (JO.alloc (z := .slice none 0 0) (cs := [.slice none 0 0]) Tryz.zeroValue71 rfl) ?_
  rintro _ _ ⟨b_1, rfl, rfl⟩
  refine JL.nil ?_
  refine JQ.seq ?_
  refine JC.seq ?_
  refine JC.seq ?_
  refine JC.region ?_
  refine JL.pure rfl (PO.move (v := str s) rfl) ?_
  refine JL.op rfl (JO.call [] Tryz.call110 rfl (Y_saft s) rfl (fun _ _ => trivial)) ?_
  rintro _ _ ⟨_, ⟨b_2, b_3, b_4, rfl, rfl⟩, rfl⟩
  refine JL.nil ?_
  refine JQ.seq ?_
  refine JC.block ?_
  refine JC.nilRow 9 1 ?_
  refine rangeFuncC (gf := 162) (lb := [.pointer (some ⟨b_2, 0, none⟩), .pointer (some ⟨b_3, 0, none⟩), .pointer (some ⟨b_4, 0, none⟩)]) rfl Tryz.call162 ?_
  intro bd_ l_ rc hst hpd hps htm has hbd
  refine ⟨[3, 3, 3, 0, 2, 1], _, _, _, _, rfl, Y_iter l_ (fun pre L => ∃ a c, L = [.blk l_ (.loop rc), bk b_1 71 [.slice a pre.length c], .row (.slice a pre.length c) 9 1 pre.length (pre.map str)]) s hs b_2 b_3 b_4 _ ?_ ?_ ⟨none, 0, rfl⟩, fun _ _ => trivial, ?_⟩
  · skip
    rintro w0 D B pre x _ ⟨a_, c_, rfl⟩ hx hxl hpl
    refine Round.of (i := 0) rfl hps htm has hbd ?_
    refine JCi.region ?_
    refine JLi.pure rfl (PO.assign (v := str x) rfl) ?_
    refine JLi.nil ?_
    refine JQi.begin (i := 0) rfl hst ?_
    refine JCi.block ?_
    refine JCi.seq ?_
    refine JCi.region ?_
    refine JLi.pure rfl (PO.move (v := str x) rfl) ?_
    refine JLi.op rfl (JO.call [] Tryz.call111 rfl (C_sfx x [10] (by omega)) rfl (fun _ _ => trivial)) ?_
    rintro _ _ ⟨_, ⟨rfl, rfl⟩, rfl⟩
    refine JLi.nil ?_
    refine JQi.seq ?_
    refine JCi.condT (congrArg Value.bool hx) ?_
    refine JCi.region ?_
    refine JLi.ld rfl (LO.load1 1 (v := .slice a_ pre.length c_) rfl rfl Tryz.isAgg71 rfl) ?_
    refine JLi.pure rfl (PO.move (v := str x) rfl) ?_
    refine JLi.op rfl (JO.buildSlice (ps := [(0, str x)]) (cur := #[str x]) Tryz.underlying71 Tryz.sizeOf9 Tryz.zeroValue9 rfl (by kernel_rfl) (by decide) (by decide)) ?_
    rintro _ _ ⟨a_5, rfl, rfl⟩
    refine JLi.op rfl (JO.append' 3 (q := 1) (news := ([x] : List Str).map str) (n' := (pre ++ ([x] : List Str)).length) (cs' := (pre ++ ([x] : List Str)).map str) rfl Tryz.underlying71 Tryz.underlying71 Tryz.typeInfo9 rfl (by' := 16) rfl rfl rfl rfl rfl (fun w hw => Src.sees (hw.see (i := 0) rfl) (oneS _)) (by (try simp only [List.length_append, List.length_cons, List.length_nil, List.length_take, List.length_drop]); omega) (by (try simp only [List.length_append, List.length_cons, List.length_nil, List.length_take, List.length_drop]); omega) (by simp only [List.length_append, List.length_take, List.length_drop, List.length_cons, List.length_nil] <;> first | rfl | omega) (by simp only [List.map_append])) ?_
    rintro _ _ ⟨a_6, c_7, rfl, rfl⟩
    refine JLi.op rfl (JO.store 2 (vs := [.slice a_6 ((pre ++ ([x] : List Str)).length) c_7]) (cs' := [.slice a_6 ((pre ++ ([x] : List Str)).length) c_7]) rfl rfl rfl rfl Tryz.sizeOf71 rfl rfl (Nat.le_of_ble_eq_true rfl) rfl) ?_
    rintro _ _ rfl
    refine JLi.nil ?_
    refine JQi.blockN ?_
    refine JQi.sub (L' := ([.blk l_ (.loop { rc with state := .busy }), bk b_1 71 [.slice a_6 ((pre ++ ([x] : List Str)).length) c_7], rS a_6 c_7 (pre ++ ([x] : List Str))] ++ B)) (.cons _ (List.Sublist.refl _)) ?_
    exact JQi.endr (i := 0) rfl hst hpd ⟨_, ⟨a_6, c_7, rfl⟩, rfl⟩
  · skip
    rintro w0 D B pre x _ ⟨a_, c_, rfl⟩ hx hxl hpl
    refine Round.of (i := 0) rfl hps htm has hbd ?_
    refine JCi.region ?_
    refine JLi.pure rfl (PO.assign (v := str x) rfl) ?_
    refine JLi.nil ?_
    refine JQi.begin (i := 0) rfl hst ?_
    refine JCi.block ?_
    refine JCi.seq ?_
    refine JCi.region ?_
    refine JLi.pure rfl (PO.move (v := str x) rfl) ?_
    refine JLi.op rfl (JO.call [] Tryz.call111 rfl (C_sfx x [10] (by omega)) rfl (fun _ _ => trivial)) ?_
    rintro _ _ ⟨_, ⟨rfl, rfl⟩, rfl⟩
    refine JLi.nil ?_
    refine JQi.seq ?_
    refine JCi.condF (congrArg Value.bool hx) ?_
    refine JCi.skip ?_
    refine JQi.blockN ?_
    exact JQi.endr (i := 0) rfl hst hpd ⟨_, ⟨a_, c_, rfl⟩, rfl⟩
  · skip
    rintro _ _ ⟨_, ⟨a_, c_, rfl⟩, rfl⟩
    refine ⟨0, rc, rfl, hst, hpd, ?_⟩
    refine JQi.blockN ?_
    refine JQi.seqW ?_
    refine JCi.seq ?_
    refine JCi.region ?_
    refine JLi.ld rfl (LO.load1 1 (v := .slice a_ ((linesOf s).length) c_) rfl rfl Tryz.isAgg71 rfl) ?_
    refine JLi.pure rfl (PO.assign (v := .slice a_ ((linesOf s).length) c_) rfl) ?_
    refine JLi.nil ?_
    refine JQi.seq ?_
    refine JCi.ret ?_
    refine JQi.retM (j := 3) rfl ?_
    refine Done.one (A' := [rS a_ c_ (linesOf s)]) (.inl rfl) rfl (RV.tmp (v := .slice a_ ((linesOf s).length) c_) rfl) (.cons _ (.cons _ (.cons_cons _ (.cons _ .slnil)))) ?_
    exact ⟨a_, c_, rfl, rfl⟩

end Go.Proofs.YtjncpgcccgdeiaaGreatDoor

set_option linter.unusedSimpArgs false
set_option linter.unusedVariables false
set_option linter.unnecessarySimpa false
namespace Go.Proofs.YtjncpgcccgdeiaaGreatDoor
open Go Go.RowKit
structure RT where
  cells : List Cell
structure RA where
  a0 : Option Addr
  c0 : Nat
structure RX where
  x : RA
  t : RT
def r0 : RX := ⟨⟨none, 0⟩, ⟨[]⟩⟩
section
variable {f : Int} {m n i : Nat} {L : List Str} {A : List (List Cell)} {R : List (List Cell) × Nat}
end
end Go.Proofs.YtjncpgcccgdeiaaGreatDoor

set_option linter.unusedSimpArgs false
set_option linter.unusedVariables false
set_option linter.unnecessarySimpa false
namespace Go.Proofs.YtjncpgcccgdeiaaGreatDoor
open Go Go.RowKit
attribute [local irreducible] JL JC JQ JO LO PO JA JX Ct
theorem Y_heldCellS (a : Option Addr) (c : Nat) (l : List Cell) (k : Nat) (h0 : 0 < k) (h1 : k + 2 * l.length ≤ 100000000) : Ct Tryz.prog 118 [.slice a l.length c, .int .i64 ((k : Nat) : Int)] [] (fun w => Sees w (.slice a l.length c) 2 l.length ((markC l k).flatMap encC)) (fun v A' => v = .int .i64 ((k + 2 * l.length : Nat) : Int) ∧ A' = []) :=
  (C_heldCellS a l.length c (markC l k) k (markC_len l k) h0 (by rw [markC_len]; omega)).weak (fun w h => by rw [markC_len]; exact h) fun v A' ⟨hv, hA⟩ => ⟨by rw [hv, heldC_mark], hA⟩

theorem E_szCellS (a : Option Addr) (c : Nat) (s : List Cell) (l : Int) (h0 : 0 ≤ l) (h1 : l ≤ 1048576) (hn : s.length ≤ 9223372036854775807) (hsz : ∀ j, j < s.length → (s.getD j c0).1.length ≤ 9223372036854775807 ∧ (s.getD j c0).2.length ≤ 9223372036854775807) :
    Ct Tryz.prog 139 [.slice a s.length c, .int .i64 l] [] (fun w => SeesE w (.slice a s.length c) 2 s.length (s.flatMap encC)) (fun r A' => r = .int .i64 (szCellS s l) ∧ A' = []) := by
  refine Ct.intro Tryz.func139 rfl Tryz.ntmps139 (Nat.le_of_ble_eq_true rfl) fun w0 hpre => ?_
  have hs_a' : SeesE w0 _ _ _ _ := hpre
  refine JC.seq ?_
  refine JC.region ?_
  refine JL.pure rfl (PO.assign (v := .int .i64 0) rfl) ?_
  refine JL.nil ?_
  refine JQ.seq ?_
  refine JC.seq ?_
  refine JC.region ?_
  refine JL.pure rfl (PO.move (v := .int .i64 l) rfl) ?_
  refine JL.pure rfl (PO.move (v := .slice a s.length c) rfl) ?_
  refine JL.pure rfl (PO.lenV Tryz.underlying116 rfl) ?_
  refine JL.pure rfl (PO.sub (c := l - ((s.length : Nat) : Int)) rfl rfl (wr (by omega))) ?_
  refine JL.pure rfl (PO.assign (v := .int .i64 (l - ((s.length : Nat) : Int))) rfl) ?_
  refine JL.nil ?_
  refine JQ.seq ?_
  refine JC.seq ?_
  refine JC.seq ?_
  refine JC.region ?_
  refine JL.pure rfl (PO.move (v := .int .i64 (l - ((s.length : Nat) : Int))) rfl) ?_
  refine JL.pure rfl (PO.lss rfl rfl) ?_
  refine JL.nil ?_
  refine JQ.seq ?_
  by_cases h_1 : (l - ((s.length : Nat) : Int)) < 0
  · skip
    refine JC.condT (congrArg Value.bool (decide_eq_true h_1)) ?_
    refine JC.seq ?_
    refine JC.region ?_
    refine JL.pure rfl (PO.assign (v := .int .i64 (-1)) rfl) ?_
    refine JL.nil ?_
    refine JQ.seq ?_
    refine JC.ret ?_
    refine JQ.thenRet ?_
    refine Done.one (.inl rfl) rfl (RV.tmp (v := .int .i64 (-1)) rfl) (List.nil_sublist _) ?_
    refine ⟨?_, rfl⟩
    rw [szCellS, if_pos (by omega)]
  · skip
    refine JC.condF (congrArg Value.bool (decide_eq_false h_1)) ?_
    refine JC.skip ?_
    refine JQ.seq ?_
    refine JC.seq ?_
    refine JC.seq ?_
    refine JC.region ?_
    refine JL.pure rfl (PO.assign (v := .int .i64 0) rfl) ?_
    refine JL.nil ?_
    refine JQ.seq ?_
    refine JC.block ?_
    refine JC.loop (fun k_ e_ L_ => ∃ j : Nat, ∃ l1 : Int, (j ≤ s.length) ∧ (0 ≤ l1) ∧ (l1 ≤ 1048576) ∧ (szCells (s.drop j) l1 = szCellS s l) ∧ e_ 0 = .slice a s.length c ∧ e_ 1 = .int .i64 l1 ∧ e_ 5 = .int .i64 ((j : Nat) : Int) ∧ L_ = [] ∧ k_ = s.length - j) _ ⟨0, (l - (s.length : Int)), by omega, by omega, by omega, (by rw [szCellS, if_neg (by omega)]; rfl), rfl, rfl, rfl, rfl, rfl⟩ ?_
    rintro _ e_2 _ ⟨j, l1, hj, hl, hl2, hR, he_3, he_4, he_5, rfl, rfl⟩
    refine JC.seq ?_
    refine JC.seq ?_
    refine JC.region ?_
    refine JL.pure rfl (PO.move (v := .int .i64 ((j : Nat) : Int)) he_5) ?_
    refine JL.pure rfl (PO.move (v := .slice a s.length c) he_3) ?_
    refine JL.pure rfl (PO.lenV Tryz.underlying116 rfl) ?_
    refine JL.pure rfl (PO.lss rfl rfl) ?_
    refine JL.nil ?_
    refine JQ.seq ?_
    by_cases h_6 : ((j : Nat) : Int) < ((s.length : Nat) : Int)
    · skip
      have hlt : j < s.length := by omega
      have hs_a : Sees w0 _ _ _ _ := hs_a'.full (by omega)
      refine JC.condT (congrArg Value.bool (decide_eq_true h_6)) ?_
      refine JC.skip ?_
      refine JQ.seq ?_
      refine JC.seq ?_
      refine JC.block ?_
      refine JC.seq ?_
      refine JC.region ?_
      refine JL.pure rfl (PO.move (v := .slice a s.length c) he_3) ?_
      refine JL.pure rfl (PO.move (v := .int .i64 ((j : Nat) : Int)) he_5) ?_
      obtain ⟨hr_7, hr_7b, -⟩ := sees_some hs_a (by omega)
      refine JL.pure rfl (PO.indexAddrV (i := j) Tryz.underlying116 Tryz.sizeOf160 hr_7 hr_7b rfl rfl (by omega)) ?_
      refine JL.ld rfl (LO.loadSK (vs := [str ((s.getD j c0).1), str ((s.getD j c0).2)]) hs_a (fun _ _ => List.not_mem_nil) rfl Tryz.isAgg160 Tryz.sizeOf160 (atC (by omega)) rfl (by decide)) ?_
      refine JL.pure rfl (PO.move (v := .int .i64 l1) he_4) ?_
      refine JL.op rfl (JO.call [] Tryz.call160 rfl (C_szCell ((s.getD j c0).1) ((s.getD j c0).2) l1 (by omega) (by omega) (hsz j (by omega)).1 (hsz j (by omega)).2) rfl (fun _ _ => trivial)) ?_
      rintro _ _ ⟨_, ⟨rfl, rfl⟩, rfl⟩
      refine JL.pure rfl (PO.assign (v := .int .i64 (szCell ((s.getD j c0).1) ((s.getD j c0).2) l1)) rfl) ?_
      refine JL.nil ?_
      refine JQ.seq ?_
      refine JC.seq ?_
      refine JC.region ?_
      refine JL.pure rfl (PO.move (v := .int .i64 (szCell ((s.getD j c0).1) ((s.getD j c0).2) l1)) rfl) ?_
      refine JL.pure rfl (PO.lss rfl rfl) ?_
      refine JL.nil ?_
      refine JQ.seq ?_
      by_cases h_8 : (szCell ((s.getD j c0).1) ((s.getD j c0).2) l1) < 0
      · skip
        have hneg := h_8
        refine JC.condT (congrArg Value.bool (decide_eq_true h_8)) ?_
        refine JC.seq ?_
        refine JC.region ?_
        refine JL.pure rfl (PO.assign (v := .int .i64 (-1)) rfl) ?_
        refine JL.nil ?_
        refine JQ.seq ?_
        refine JC.ret ?_
        refine JQ.blockRet ?_
        refine JQ.thenRet ?_
        refine JQ.thenRet ?_
        refine JQ.blockRet ?_
        refine JQ.thenRet ?_
        refine Done.one (.inl rfl) rfl (RV.tmp (v := .int .i64 (-1)) rfl) (List.nil_sublist _) ?_
        refine ⟨?_, rfl⟩
        rw [szCells_step hlt, if_pos hneg] at hR
        rw [← hR]
      · skip
        have hneg := h_8
        refine JC.condF (congrArg Value.bool (decide_eq_false h_8)) ?_
        refine JC.skip ?_
        refine JQ.blockN ?_
        refine JQ.seq ?_
        refine JC.region ?_
        refine JL.pure rfl (PO.move (v := .int .i64 ((j : Nat) : Int)) he_5) ?_
        refine JL.pure rfl (PO.add (c := ((j + 1 : Nat) : Int)) rfl rfl (wr (by omega))) ?_
        refine JL.pure rfl (PO.assign (v := .int .i64 ((j + 1 : Nat) : Int)) rfl) ?_
        refine JL.nil ?_
        refine JQ.again (s.length - (j + 1)) (by omega) ⟨j + 1, szCell ((s.getD j c0).1) ((s.getD j c0).2) l1, by omega, by omega, by have := szCell_le (s.getD j c0).1 (s.getD j c0).2 l1 (by omega); omega, (by rw [szCells_step hlt, if_neg hneg] at hR; exact hR), he_3, rfl, rfl, rfl, rfl⟩
    · skip
      refine JC.condF (congrArg Value.bool (decide_eq_false h_6)) ?_
      refine JC.exit ?_
      refine JQ.thenExit ?_
      refine JQ.thenExit ?_
      refine JQ.blockE ?_
      refine JQ.seq ?_
      refine JC.seq ?_
      refine JC.region ?_
      refine JL.pure rfl (PO.move (v := .int .i64 l1) he_4) ?_
      refine JL.pure rfl (PO.assign (v := .int .i64 l1) rfl) ?_
      refine JL.nil ?_
      refine JQ.seq ?_
      refine JC.ret ?_
      refine Done.one (.inl rfl) rfl (RV.tmp (v := .int .i64 l1) rfl) (List.nil_sublist _) ?_
      refine ⟨?_, rfl⟩
      rw [List.drop_of_length_le (by omega)] at hR
      rw [← hR]
      rfl

theorem E_toCellS (a : Option Addr) (c : Nat) (s : List Cell) (hn : s.length ≤ 1048576) :
    Ct Tryz.prog 141 [.slice a s.length c] [] (fun w => SeesE w (.slice a s.length c) 2 s.length (s.flatMap encC)) (fun r A' => ∃ a' c', r = .slice a' s.length c' ∧ A' = [.row (.slice a' s.length c') 48 2 s.length (s.flatMap encC)]) := by
  refine Ct.intro Tryz.func141 rfl Tryz.ntmps141 (Nat.le_of_ble_eq_true rfl) fun w0 hpre => ?_
  have hs_a' : SeesE w0 _ _ _ _ := hpre
  refine JC.seq ?_
  refine JC.region ?_
  refine JL.pure rfl (PO.assign (v := .slice none 0 0) rfl) ?_
  refine JL.nil ?_
  refine JQ.seq ?_
  refine JC.seq ?_
  refine JC.region ?_
  refine JL.pure rfl (PO.move (v := .slice a s.length c) rfl) ?_
  refine JL.pure rfl (PO.lenV Tryz.underlying116 rfl) ?_
  refine JL.op rfl (JO.makeSlice (z := .agg #[str [], str []]) (zc := [str [], str []]) (m := s.length) Tryz.underlying49 Tryz.typeInfo48 rfl rfl rfl rfl rfl (by unfold maxLen; omega) (by show 32 * _ ≤ _; omega)) ?_
  rintro _ _ ⟨a_1, rfl, rfl⟩
  refine JL.pure rfl (PO.assign (v := .slice a_1 s.length s.length) rfl) ?_
  refine JL.nil ?_
  refine JQ.seq ?_
  refine JC.seq ?_
  refine JC.seq ?_
  refine JC.region ?_
  refine JL.pure rfl (PO.assign (v := .int .i64 0) rfl) ?_
  refine JL.nil ?_
  refine JQ.seq ?_
  refine JC.block ?_
  refine JC.loop (fun k_ e_ L_ => ∃ j : Nat, (j ≤ s.length) ∧ e_ 0 = .slice a s.length c ∧ e_ 2 = .slice none 0 0 ∧ e_ 3 = .slice a_1 s.length s.length ∧ e_ 4 = .int .i64 ((j : Nat) : Int) ∧ L_ = [Res.row (.slice a_1 s.length s.length) 48 2 s.length ((s.take j ++ List.replicate (s.length - j) c0).flatMap encC)] ∧ k_ = s.length - j) _ ⟨0, by omega, rfl, rfl, rfl, rfl, (by rw [replC]; rfl), rfl⟩ ?_
  rintro _ e_2 _ ⟨j, hj, he_3, he_4, he_5, he_6, rfl, rfl⟩
  refine JC.seq ?_
  refine JC.seq ?_
  refine JC.region ?_
  refine JL.pure rfl (PO.move (v := .int .i64 ((j : Nat) : Int)) he_6) ?_
  refine JL.pure rfl (PO.move (v := .slice a s.length c) he_3) ?_
  refine JL.pure rfl (PO.lenV Tryz.underlying116 rfl) ?_
  refine JL.pure rfl (PO.lss rfl rfl) ?_
  refine JL.nil ?_
  refine JQ.seq ?_
  by_cases h_7 : ((j : Nat) : Int) < ((s.length : Nat) : Int)
  · skip
    have hlt : j < s.length := by omega
    have hs_a : Sees w0 _ _ _ _ := hs_a'.full (by omega)
    refine JC.condT (congrArg Value.bool (decide_eq_true h_7)) ?_
    refine JC.skip ?_
    refine JQ.seq ?_
    refine JC.seq ?_
    refine JC.block ?_
    refine JC.region ?_
    refine JL.pure rfl (PO.move (v := .slice a_1 s.length s.length) he_5) ?_
    refine JL.pure rfl (PO.move (v := .int .i64 ((j : Nat) : Int)) he_6) ?_
    refine JL.pure rfl (PO.move (v := .slice a s.length c) he_3) ?_
    refine JL.pure rfl (PO.move (v := .int .i64 ((j : Nat) : Int)) he_6) ?_
    obtain ⟨hr_8, hr_8b, -⟩ := sees_some hs_a (by omega)
    refine JL.pure rfl (PO.indexAddrV (i := j) Tryz.underlying116 Tryz.sizeOf160 hr_8 hr_8b rfl rfl (by omega)) ?_
    refine JL.ld rfl (LO.loadSK (vs := [str ((s.getD j c0).1), str ((s.getD j c0).2)]) hs_a (fun _ _ => List.not_mem_nil) rfl Tryz.isAgg160 Tryz.sizeOf160 (atC (by omega)) rfl (by decide)) ?_
    refine JL.op rfl (JO.call [] Tryz.call161 rfl (C_toCell ((s.getD j c0).1) ((s.getD j c0).2)) rfl (fun _ _ => trivial)) ?_
    rintro _ _ ⟨_, ⟨rfl, rfl⟩, rfl⟩
    refine JL.facts fun hst => ?_
    obtain ⟨hr_9, hr_9b, -⟩ := row_some 0 rfl (by omega) hst
    refine JL.pure rfl (PO.indexAddrV (i := j) Tryz.underlying49 Tryz.sizeOf48 hr_9 hr_9b rfl rfl (by omega)) ?_
    refine JL.op rfl (JO.storeR 0 (vs := [str ((s.getD j c0).1), str ((s.getD j c0).2)]) (cs' := ((s.take j ++ List.replicate (s.length - j) c0).set j ((s.getD j c0).1, (s.getD j c0).2)).flatMap encC) rfl rfl rfl rfl Tryz.sizeOf48 rfl rfl (by decide) (by rw [lenC]; rw [fill_len c0 hj]; omega) (setC (by rw [fill_len c0 hj]; omega))) ?_
    rintro _ _ rfl
    refine JL.nil ?_
    refine JQ.blockN ?_
    refine JQ.seq ?_
    refine JC.region ?_
    refine JL.pure rfl (PO.move (v := .int .i64 ((j : Nat) : Int)) he_6) ?_
    refine JL.pure rfl (PO.add (c := ((j + 1 : Nat) : Int)) rfl rfl (wr (by omega))) ?_
    refine JL.pure rfl (PO.assign (v := .int .i64 ((j + 1 : Nat) : Int)) rfl) ?_
    refine JL.nil ?_
    refine JQ.again (s.length - (j + 1)) (by omega) ⟨j + 1, by omega, he_3, he_4, he_5, rfl, (by rw [← fill_step c0 hlt]; rfl), rfl⟩
  · skip
    refine JC.condF (congrArg Value.bool (decide_eq_false h_7)) ?_
    refine JC.exit ?_
    refine JQ.thenExit ?_
    refine JQ.thenExit ?_
    refine JQ.blockE ?_
    refine JQ.seq ?_
    refine JC.seq ?_
    refine JC.region ?_
    refine JL.pure rfl (PO.move (v := .slice a_1 s.length s.length) he_5) ?_
    refine JL.pure rfl (PO.assign (v := .slice a_1 s.length s.length) rfl) ?_
    refine JL.nil ?_
    refine JQ.seq ?_
    refine JC.ret ?_
    refine Done.one (.inl rfl) rfl (RV.tmp (v := .slice a_1 s.length s.length) rfl) (List.Sublist.refl _) ?_
    exact ⟨_, _, rfl, by rw [fill_done c0 (by omega)]⟩

theorem C_szSlot (p : OX) (l : Int) (h0 : 0 ≤ l) (h1 : l ≤ 1048576) (hz : p.t.okz) :
    Ct Tryz.prog 104 [.agg #[.int .i64 p.t.seq, .slice p.x.a0 p.t.cells.length p.x.c0, .bool p.t.whole], .int .i64 l] [] (fun w => SeesAE w (rdsO p)) (fun r A' => r = .int .i64 (szSlotF p.t l) ∧ A' = []) := by
  refine Ct.intro Tryz.func104 rfl Tryz.ntmps104 (Nat.le_of_ble_eq_true rfl) fun w0 hpre => ?_
  have hs_1 := seesOE hpre
  refine JC.seq ?_
  refine JC.region ?_
  refine JL.op rfl (JO.box (cs := [.int .i64 p.t.seq, .slice p.x.a0 p.t.cells.length p.x.c0, .bool p.t.whole]) rfl rfl) ?_
  rintro _ _ ⟨b_2, rfl, rfl⟩
  refine JL.pure rfl (PO.assign (v := .int .i64 0) rfl) ?_
  refine JL.nil ?_
  refine JQ.seq ?_
  refine JC.seq ?_
  refine JC.region ?_
  refine JL.pure rfl (PO.fieldAddr fo118_1 rfl) ?_
  refine JL.ld rfl (LO.load1 0 (v := .slice p.x.a0 p.t.cells.length p.x.c0) rfl rfl Tryz.isAgg116 rfl) ?_
  refine JL.pure rfl (PO.move (v := .int .i64 l) rfl) ?_
  refine JL.op rfl (JO.call [] Tryz.call139 rfl (E_szCellS p.x.a0 p.x.c0 p.t.cells l (by omega) (by omega) hz.k0.1 hz.k0.2) rfl (fun w hw => hw.seeOutE hs_1 (fun _ _ => List.not_mem_nil))) ?_
  rintro _ _ ⟨_, ⟨rfl, rfl⟩, rfl⟩
  have hle_3 := szCellS_le p.t.cells l (by omega)
  refine JL.pure rfl (PO.assign (v := .int .i64 (szCellS p.t.cells l)) rfl) ?_
  refine JL.nil ?_
  refine JQ.seq ?_
  refine JC.seq ?_
  refine JC.seq ?_
  refine JC.region ?_
  refine JL.pure rfl (PO.move (v := .int .i64 (szCellS p.t.cells l)) rfl) ?_
  refine JL.pure rfl (PO.lss rfl rfl) ?_
  refine JL.nil ?_
  refine JQ.seq ?_
  by_cases h_4 : (szCellS p.t.cells l) < 0
  · skip
    refine JC.condT (congrArg Value.bool (decide_eq_true h_4)) ?_
    refine JC.seq ?_
    refine JC.region ?_
    refine JL.pure rfl (PO.assign (v := .int .i64 (-1)) rfl) ?_
    refine JL.nil ?_
    refine JQ.seq ?_
    refine JC.ret ?_
    refine JQ.thenRet ?_
    refine Done.one (.inl rfl) rfl (RV.tmp (v := .int .i64 (-1)) rfl) (List.nil_sublist _) ?_
    refine ⟨congrArg (Value.int .i64) ?_, rfl⟩
    simp only [szSlotF, chk, id_eq]
    (repeat (first | rw [if_pos (by omega)] | rw [if_neg (by omega)]))
  · skip
    refine JC.condF (congrArg Value.bool (decide_eq_false h_4)) ?_
    refine JC.skip ?_
    refine JQ.seq ?_
    refine JC.seq ?_
    refine JC.region ?_
    refine JL.pure rfl (PO.move (v := .int .i64 (szCellS p.t.cells l)) rfl) ?_
    refine JL.pure rfl (PO.assign (v := .int .i64 (szCellS p.t.cells l)) rfl) ?_
    refine JL.nil ?_
    refine JQ.seq ?_
    refine JC.ret ?_
    refine Done.one (.inl rfl) rfl (RV.tmp (v := .int .i64 (szCellS p.t.cells l)) rfl) (List.nil_sublist _) ?_
    refine ⟨congrArg (Value.int .i64) ?_, rfl⟩
    simp only [szSlotF, chk, id_eq]
    (repeat (first | rw [if_pos (by omega)] | rw [if_neg (by omega)]))

theorem C_toSlot (p : OX) (hl : p.t.lim 1048576) :
    Ct Tryz.prog 108 [.agg #[.int .i64 p.t.seq, .slice p.x.a0 p.t.cells.length p.x.c0, .bool p.t.whole]] [] (fun w => SeesAE w (rdsO p)) (fun v A' => ∃ y : OX, y.t = p.t ∧ v = .agg #[.int .i64 y.t.seq, .slice y.x.a0 y.t.cells.length y.x.c0, .bool y.t.whole] ∧ A' = [.rows (rdsO y)]) := by
  obtain ⟨hb0⟩ := hl
  refine Ct.intro Tryz.func108 rfl Tryz.ntmps108 (Nat.le_of_ble_eq_true rfl) fun w0 hpre => ?_
  have hs_1 := seesOE hpre
  refine JC.seq ?_
  refine JC.region ?_
  refine JL.op rfl (JO.box (cs := [.int .i64 p.t.seq, .slice p.x.a0 p.t.cells.length p.x.c0, .bool p.t.whole]) rfl rfl) ?_
  rintro _ _ ⟨b_2, rfl, rfl⟩
  refine JL.op rfl (JO.alloc (z := .agg #[.int .i64 0, .slice none 0 0, .bool false]) (cs := [.int .i64 0, .slice none 0 0, .bool false]) Tryz.zeroValue60 rfl) ?_
  rintro _ _ ⟨b_3, rfl, rfl⟩
  refine JL.nil ?_
  refine JQ.seq ?_
  refine JC.seq ?_
  refine JC.region ?_
  refine JL.op rfl (JO.alloc (z := .agg #[.int .i64 0, .slice none 0 0, .bool false]) (cs := [.int .i64 0, .slice none 0 0, .bool false]) Tryz.zeroValue60 rfl) ?_
  rintro _ _ ⟨b_4, rfl, rfl⟩
  refine JL.nil ?_
  refine JQ.seq ?_
  refine JC.seq ?_
  refine JC.region ?_
  refine JL.pure rfl (PO.fieldAddr fo118_0 rfl) ?_
  refine JL.ld rfl (LO.load1 2 (v := .int .i64 p.t.seq) rfl rfl Tryz.isAgg3 rfl) ?_
  refine JL.pure rfl (PO.fieldAddr fo60_0 rfl) ?_
  refine JL.op rfl (JO.store 0 (vs := [.int .i64 p.t.seq]) (cs' := [.int .i64 p.t.seq, .slice none 0 0, .bool false]) rfl rfl rfl rfl Tryz.sizeOf3 rfl rfl (Nat.le_of_ble_eq_true rfl) rfl) ?_
  rintro _ _ rfl
  refine JL.nil ?_
  refine JQ.seq ?_
  refine JC.seq ?_
  refine JC.region ?_
  refine JL.pure rfl (PO.fieldAddr fo118_1 rfl) ?_
  refine JL.ld rfl (LO.load1 2 (v := .slice p.x.a0 p.t.cells.length p.x.c0) rfl rfl Tryz.isAgg116 rfl) ?_
  refine JL.op rfl (JO.call [] Tryz.call141 rfl (E_toCellS p.x.a0 p.x.c0 p.t.cells (by omega)) rfl (fun w hw => hw.seeOutE hs_1 (fun _ _ => List.not_mem_nil))) ?_
  rintro _ _ ⟨_, ⟨a_5, c_6, rfl, rfl⟩, rfl⟩
  refine JL.pure rfl (PO.fieldAddr fo60_1 rfl) ?_
  refine JL.op rfl (JO.store 1 (vs := [.slice a_5 p.t.cells.length c_6]) (cs' := [.int .i64 p.t.seq, .slice a_5 p.t.cells.length c_6, .bool false]) rfl rfl rfl rfl Tryz.sizeOf49 rfl rfl (Nat.le_of_ble_eq_true rfl) rfl) ?_
  rintro _ _ rfl
  refine JL.nil ?_
  refine JQ.seq ?_
  refine JC.seq ?_
  refine JC.region ?_
  refine JL.pure rfl (PO.fieldAddr fo118_2 rfl) ?_
  refine JL.ld rfl (LO.load1 3 (v := .bool p.t.whole) rfl rfl Tryz.isAgg4 rfl) ?_
  refine JL.pure rfl (PO.fieldAddr fo60_2 rfl) ?_
  refine JL.op rfl (JO.store 1 (vs := [.bool p.t.whole]) (cs' := [.int .i64 p.t.seq, .slice a_5 p.t.cells.length c_6, .bool p.t.whole]) rfl rfl rfl rfl Tryz.sizeOf4 rfl rfl (Nat.le_of_ble_eq_true rfl) rfl) ?_
  rintro _ _ rfl
  refine JL.nil ?_
  refine JQ.seq ?_
  refine JC.seq ?_
  refine JC.region ?_
  refine JL.ld rfl (LO.loadK 1 (vs := [.int .i64 p.t.seq, .slice a_5 p.t.cells.length c_6, .bool p.t.whole]) rfl rfl Tryz.isAgg60 Tryz.sizeOf60 rfl rfl) ?_
  refine JL.op rfl (JO.store 2 (vs := [.int .i64 p.t.seq, .slice a_5 p.t.cells.length c_6, .bool p.t.whole]) (cs' := [.int .i64 p.t.seq, .slice a_5 p.t.cells.length c_6, .bool p.t.whole]) rfl rfl rfl rfl Tryz.sizeOf60 rfl rfl (Nat.le_of_ble_eq_true rfl) rfl) ?_
  rintro _ _ rfl
  refine JL.nil ?_
  refine JQ.seq ?_
  refine JC.ret ?_
  refine JQ.ghost (L' := [Res.rows (rdsO (⟨⟨a_5, c_6⟩, p.t⟩ : OX)), bk b_4 60 [.int .i64 p.t.seq, .slice a_5 p.t.cells.length c_6, .bool p.t.whole], bk b_3 60 [.int .i64 p.t.seq, .slice a_5 p.t.cells.length c_6, .bool p.t.whole], bk b_2 118 [.int .i64 p.t.seq, .slice p.x.a0 p.t.cells.length p.x.c0, .bool p.t.whole]]) (fun w hw => hw.closeR (A := rdsO (⟨⟨a_5, c_6⟩, p.t⟩ : OX)) [0] rfl) ?_
  refine Done.one (.inl rfl) rfl (RV.cell1 (LO.loadK 2 (vs := [.int .i64 p.t.seq, .slice a_5 p.t.cells.length c_6, .bool p.t.whole]) rfl rfl Tryz.isAgg60 Tryz.sizeOf60 rfl rfl) ⟨_, rfl⟩) (List.sublist_append_left [Res.rows (rdsO (⟨⟨a_5, c_6⟩, p.t⟩ : OX))] [bk b_4 60 [.int .i64 p.t.seq, .slice a_5 p.t.cells.length c_6, .bool p.t.whole], bk b_3 60 [.int .i64 p.t.seq, .slice a_5 p.t.cells.length c_6, .bool p.t.whole], bk b_2 118 [.int .i64 p.t.seq, .slice p.x.a0 p.t.cells.length p.x.c0, .bool p.t.whole]]) ?_
  exact ⟨(⟨⟨a_5, c_6⟩, p.t⟩ : OX), rfl, rfl, rfl⟩

theorem C_eqSlot (p q : OX) (hl : p.t.lim 1000000000) :
    Ct Tryz.prog 116 [.agg #[.int .i64 p.t.seq, .slice p.x.a0 p.t.cells.length p.x.c0, .bool p.t.whole], .agg #[.int .i64 q.t.seq, .slice q.x.a0 q.t.cells.length q.x.c0, .bool q.t.whole]] [] (fun w => SeesA w (rdsO p) ∧ SeesA w (rdsO q)) (fun v A' => v = .bool (decide (p.t = q.t)) ∧ A' = []) := by
  obtain ⟨hb0⟩ := hl
  refine Ct.intro Tryz.func116 rfl Tryz.ntmps116 (Nat.le_of_ble_eq_true rfl) fun w0 hpre => ?_
  have hs_1 := seesO hpre.1
  have hs_2 := seesO hpre.2
  refine JC.seq ?_
  refine JC.region ?_
  refine JL.op rfl (JO.box (cs := [.int .i64 p.t.seq, .slice p.x.a0 p.t.cells.length p.x.c0, .bool p.t.whole]) rfl rfl) ?_
  rintro _ _ ⟨b_3, rfl, rfl⟩
  refine JL.op rfl (JO.box (cs := [.int .i64 q.t.seq, .slice q.x.a0 q.t.cells.length q.x.c0, .bool q.t.whole]) rfl rfl) ?_
  rintro _ _ ⟨b_4, rfl, rfl⟩
  refine JL.pure rfl (PO.assign (v := .bool false) rfl) ?_
  refine JL.nil ?_
  refine JQ.seq ?_
  refine JC.seq ?_
  refine JC.seq ?_
  refine JC.region ?_
  refine JL.pure rfl (PO.fieldAddr fo60_0 rfl) ?_
  refine JL.ld rfl (LO.load1 1 (v := .int .i64 p.t.seq) rfl rfl Tryz.isAgg3 rfl) ?_
  refine JL.pure rfl (PO.fieldAddr fo60_0 rfl) ?_
  refine JL.ld rfl (LO.load1 0 (v := .int .i64 q.t.seq) rfl rfl Tryz.isAgg3 rfl) ?_
  refine JL.pure rfl (PO.neqI rfl rfl) ?_
  refine JL.nil ?_
  refine JQ.seq ?_
  by_cases h_5 : p.t.seq = q.t.seq
  · skip
    refine JC.condF (congrArg Value.bool (congrArg Bool.not (decide_eq_true h_5))) ?_
    refine JC.skip ?_
    refine JQ.seq ?_
    refine JC.seq ?_
    refine JC.seq ?_
    refine JC.region ?_
    refine JL.pure rfl (PO.fieldAddr fo60_1 rfl) ?_
    refine JL.ld rfl (LO.load1 1 (v := .slice p.x.a0 p.t.cells.length p.x.c0) rfl rfl Tryz.isAgg49 rfl) ?_
    refine JL.pure rfl (PO.fieldAddr fo60_1 rfl) ?_
    refine JL.ld rfl (LO.load1 0 (v := .slice q.x.a0 q.t.cells.length q.x.c0) rfl rfl Tryz.isAgg49 rfl) ?_
    refine JL.op rfl (JO.call [] Tryz.call149 rfl (C_eqCellS p.x.a0 q.x.a0 p.x.c0 q.x.c0 p.t.cells q.t.cells (by omega)) rfl (fun w hw => ⟨hw.seeOut_ hs_1 (fun _ _ => List.not_mem_nil), hw.seeOut_ hs_2 (fun _ _ => List.not_mem_nil)⟩)) ?_
    rintro _ _ ⟨_, ⟨rfl, rfl⟩, rfl⟩
    refine JL.pure rfl (PO.not rfl) ?_
    refine JL.nil ?_
    refine JQ.seq ?_
    by_cases h_6 : p.t.cells = q.t.cells
    · skip
      refine JC.condF (congrArg Value.bool (congrArg Bool.not (decide_eq_true h_6))) ?_
      refine JC.skip ?_
      refine JQ.seq ?_
      refine JC.seq ?_
      refine JC.seq ?_
      refine JC.region ?_
      refine JL.pure rfl (PO.fieldAddr fo60_2 rfl) ?_
      refine JL.ld rfl (LO.load1 1 (v := .bool p.t.whole) rfl rfl Tryz.isAgg4 rfl) ?_
      refine JL.pure rfl (PO.fieldAddr fo60_2 rfl) ?_
      refine JL.ld rfl (LO.load1 0 (v := .bool q.t.whole) rfl rfl Tryz.isAgg4 rfl) ?_
      refine JL.pure rfl (PO.neqB Tryz.underlying4 rfl rfl) ?_
      refine JL.nil ?_
      refine JQ.seq ?_
      by_cases h_7 : p.t.whole = q.t.whole
      · skip
        refine JC.condF (congrArg Value.bool (congrArg Bool.not (decide_eq_true h_7))) ?_
        refine JC.skip ?_
        refine JQ.seq ?_
        refine JC.seq ?_
        refine JC.region ?_
        refine JL.pure rfl (PO.assign (v := .bool true) rfl) ?_
        refine JL.nil ?_
        refine JQ.seq ?_
        refine JC.ret ?_
        refine Done.one (.inl rfl) rfl (RV.tmp (v := .bool true) rfl) (List.nil_sublist _) ?_
        exact ⟨congrArg Value.bool (decide_eq_true (SD.same.2 ⟨by assumption, by assumption, by assumption⟩)).symm, rfl⟩
      · skip
        refine JC.condT (congrArg Value.bool (congrArg Bool.not (decide_eq_false h_7))) ?_
        refine JC.seq ?_
        refine JC.region ?_
        refine JL.pure rfl (PO.assign (v := .bool false) rfl) ?_
        refine JL.nil ?_
        refine JQ.seq ?_
        refine JC.ret ?_
        refine JQ.thenRet ?_
        refine Done.one (.inl rfl) rfl (RV.tmp (v := .bool false) rfl) (List.nil_sublist _) ?_
        exact ⟨congrArg Value.bool (decide_eq_false (fun h_ => by obtain ⟨h_0, h_1, h_2⟩ := SD.same.1 h_; first | contradiction | (exact absurd ⟨h_6, h_7⟩ ‹¬(_ ∧ _)›))).symm, rfl⟩
    · skip
      refine JC.condT (congrArg Value.bool (congrArg Bool.not (decide_eq_false h_6))) ?_
      refine JC.seq ?_
      refine JC.region ?_
      refine JL.pure rfl (PO.assign (v := .bool false) rfl) ?_
      refine JL.nil ?_
      refine JQ.seq ?_
      refine JC.ret ?_
      refine JQ.thenRet ?_
      refine Done.one (.inl rfl) rfl (RV.tmp (v := .bool false) rfl) (List.nil_sublist _) ?_
      exact ⟨congrArg Value.bool (decide_eq_false (fun h_ => by obtain ⟨h_0, h_1, h_2⟩ := SD.same.1 h_; first | contradiction | (exact absurd ⟨h_6, h_7⟩ ‹¬(_ ∧ _)›))).symm, rfl⟩
  · skip
    refine JC.condT (congrArg Value.bool (congrArg Bool.not (decide_eq_false h_5))) ?_
    refine JC.seq ?_
    refine JC.region ?_
    refine JL.pure rfl (PO.assign (v := .bool false) rfl) ?_
    refine JL.nil ?_
    refine JQ.seq ?_
    refine JC.ret ?_
    refine JQ.thenRet ?_
    refine Done.one (.inl rfl) rfl (RV.tmp (v := .bool false) rfl) (List.nil_sublist _) ?_
    exact ⟨congrArg Value.bool (decide_eq_false (fun h_ => by obtain ⟨h_0, h_1, h_2⟩ := SD.same.1 h_; first | contradiction | (exact absurd ⟨h_6, h_7⟩ ‹¬(_ ∧ _)›))).symm, rfl⟩

theorem C_szSlotS (a : Option Addr) (c : Nat) (s : List OX) (l : Int) (h0 : 0 ≤ l) (h1 : l ≤ 1048576) (hn : s.length ≤ 9223372036854775807) (hse : ∀ j, j < s.length → (s.getD j o0).t.okz) :
    Ct Tryz.prog 54 [.slice a s.length c, .int .i64 l] [] (fun w => SeesAE w (rdsOS a c s)) (fun r A' => r = .int .i64 (szLS szSlotF (s.map OX.t) l) ∧ A' = []) := by
  refine Ct.intro Tryz.func54 rfl Tryz.ntmps54 (Nat.le_of_ble_eq_true rfl) fun w0 hpre => ?_
  have hs_1 : SeesE w0 (.slice a s.length c) 3 s.length (s.flatMap encO) := (hpre).head
  have hi_2 : SeesAE w0 (s.flatMap rdsO) := (hpre).tail
  refine JC.seq ?_
  refine JC.region ?_
  refine JL.pure rfl (PO.assign (v := .int .i64 0) rfl) ?_
  refine JL.nil ?_
  refine JQ.seq ?_
  refine JC.seq ?_
  refine JC.region ?_
  refine JL.pure rfl (PO.move (v := .int .i64 l) rfl) ?_
  refine JL.pure rfl (PO.move (v := .slice a s.length c) rfl) ?_
  refine JL.pure rfl (PO.lenV Tryz.underlying22 rfl) ?_
  refine JL.pure rfl (PO.sub (c := l - ((s.length : Nat) : Int)) rfl rfl (wr (by omega))) ?_
  refine JL.pure rfl (PO.assign (v := .int .i64 (l - ((s.length : Nat) : Int))) rfl) ?_
  refine JL.nil ?_
  refine JQ.seq ?_
  refine JC.seq ?_
  refine JC.seq ?_
  refine JC.region ?_
  refine JL.pure rfl (PO.move (v := .int .i64 (l - ((s.length : Nat) : Int))) rfl) ?_
  refine JL.pure rfl (PO.lss rfl rfl) ?_
  refine JL.nil ?_
  refine JQ.seq ?_
  by_cases h_3 : (l - ((s.length : Nat) : Int)) < 0
  · skip
    refine JC.condT (congrArg Value.bool (decide_eq_true h_3)) ?_
    refine JC.seq ?_
    refine JC.region ?_
    refine JL.pure rfl (PO.assign (v := .int .i64 (-1)) rfl) ?_
    refine JL.nil ?_
    refine JQ.seq ?_
    refine JC.ret ?_
    refine JQ.thenRet ?_
    refine Done.one (.inl rfl) rfl (RV.tmp (v := .int .i64 (-1)) rfl) (List.nil_sublist _) ?_
    refine ⟨?_, rfl⟩
    rw [szLS, List.length_map, if_pos (by omega)]
  · skip
    refine JC.condF (congrArg Value.bool (decide_eq_false h_3)) ?_
    refine JC.skip ?_
    refine JQ.seq ?_
    refine JC.seq ?_
    refine JC.seq ?_
    refine JC.region ?_
    refine JL.pure rfl (PO.assign (v := .int .i64 0) rfl) ?_
    refine JL.nil ?_
    refine JQ.seq ?_
    refine JC.block ?_
    refine JC.loop (fun k_ e_ L_ => ∃ j : Nat, ∃ l1 : Int, (j ≤ s.length) ∧ (0 ≤ l1) ∧ (l1 ≤ 1048576) ∧ (szL szSlotF ((s.map OX.t).drop j) l1 = szLS szSlotF (s.map OX.t) l) ∧ e_ 0 = .slice a s.length c ∧ e_ 1 = .int .i64 l1 ∧ e_ 5 = .int .i64 ((j : Nat) : Int) ∧ L_ = [] ∧ k_ = s.length - j) _ ⟨0, (l - (s.length : Int)), by omega, by omega, by omega, (by rw [szLS, List.length_map, if_neg (by omega)]; rfl), rfl, rfl, rfl, rfl, rfl⟩ ?_
    rintro _ e_4 _ ⟨j, l1, hj, hl, hl2, hR, he_5, he_6, he_7, rfl, rfl⟩
    refine JC.seq ?_
    refine JC.seq ?_
    refine JC.region ?_
    refine JL.pure rfl (PO.move (v := .int .i64 ((j : Nat) : Int)) he_7) ?_
    refine JL.pure rfl (PO.move (v := .slice a s.length c) he_5) ?_
    refine JL.pure rfl (PO.lenV Tryz.underlying22 rfl) ?_
    refine JL.pure rfl (PO.lss rfl rfl) ?_
    refine JL.nil ?_
    refine JQ.seq ?_
    by_cases h_8 : ((j : Nat) : Int) < ((s.length : Nat) : Int)
    · skip
      have hlt : j < s.length := by omega
      have hf_9 := SeesE.full hs_1 (by omega)
      refine JC.condT (congrArg Value.bool (decide_eq_true h_8)) ?_
      refine JC.skip ?_
      refine JQ.seq ?_
      refine JC.seq ?_
      refine JC.block ?_
      refine JC.seq ?_
      refine JC.region ?_
      refine JL.pure rfl (PO.move (v := .slice a s.length c) he_5) ?_
      refine JL.pure rfl (PO.move (v := .int .i64 ((j : Nat) : Int)) he_7) ?_
      obtain ⟨hr_10, hr_10b, -⟩ := sees_some hf_9 (by omega)
      refine JL.pure rfl (PO.indexAddrV (i := j) Tryz.underlying22 Tryz.sizeOf118 hr_10 hr_10b rfl rfl (by omega)) ?_
      have hi_11 := SeesAE.elem hi_2 o0 (show j < s.length by omega)
      have hs_12 := seesOE hi_11
      refine JL.ld rfl (LO.loadSK (vs := [.int .i64 ((s.getD j o0).t.seq), .slice ((s.getD j o0).x.a0) ((s.getD j o0).t.cells.length) ((s.getD j o0).x.c0), .bool ((s.getD j o0).t.whole)]) hf_9 (fun _ _ => List.not_mem_nil) rfl Tryz.isAgg118 Tryz.sizeOf118 (flat_take encO_len o0 s j (by omega)) rfl (by decide)) ?_
      refine JL.pure rfl (PO.move (v := .int .i64 l1) he_6) ?_
      refine JL.op rfl (JO.call [] Tryz.call104 rfl (C_szSlot (s.getD j o0) l1 (by omega) (by omega) (hse j hlt)) rfl (fun w hw => hw.seeOutAE hi_11 nMA)) ?_
      rintro _ _ ⟨_, ⟨rfl, rfl⟩, rfl⟩
      have hle_13 := szSlotF_le (s.getD j o0).t l1 (by omega)
      refine JL.pure rfl (PO.assign (v := .int .i64 (szSlotF (s.getD j o0).t l1)) rfl) ?_
      refine JL.nil ?_
      refine JQ.seq ?_
      refine JC.seq ?_
      refine JC.region ?_
      refine JL.pure rfl (PO.move (v := .int .i64 (szSlotF (s.getD j o0).t l1)) rfl) ?_
      refine JL.pure rfl (PO.lss rfl rfl) ?_
      refine JL.nil ?_
      refine JQ.seq ?_
      by_cases h_14 : (szSlotF (s.getD j o0).t l1) < 0
      · skip
        have hneg := h_14
        refine JC.condT (congrArg Value.bool (decide_eq_true h_14)) ?_
        refine JC.seq ?_
        refine JC.region ?_
        refine JL.pure rfl (PO.assign (v := .int .i64 (-1)) rfl) ?_
        refine JL.nil ?_
        refine JQ.seq ?_
        refine JC.ret ?_
        refine JQ.blockRet ?_
        refine JQ.thenRet ?_
        refine JQ.thenRet ?_
        refine JQ.blockRet ?_
        refine JQ.thenRet ?_
        refine Done.one (.inl rfl) rfl (RV.tmp (v := .int .i64 (-1)) rfl) (List.nil_sublist _) ?_
        refine ⟨?_, rfl⟩
        rw [szL_stepM o0 hlt, if_pos hneg] at hR
        rw [← hR]
      · skip
        have hneg := h_14
        refine JC.condF (congrArg Value.bool (decide_eq_false h_14)) ?_
        refine JC.skip ?_
        refine JQ.blockN ?_
        refine JQ.seq ?_
        refine JC.region ?_
        refine JL.pure rfl (PO.move (v := .int .i64 ((j : Nat) : Int)) he_7) ?_
        refine JL.pure rfl (PO.add (c := ((j + 1 : Nat) : Int)) rfl rfl (wr (by omega))) ?_
        refine JL.pure rfl (PO.assign (v := .int .i64 ((j + 1 : Nat) : Int)) rfl) ?_
        refine JL.nil ?_
        refine JQ.again (s.length - (j + 1)) (by omega) ⟨j + 1, szSlotF (s.getD j o0).t l1, by omega, by omega, by omega, (by rw [szL_stepM o0 hlt, if_neg hneg] at hR; exact hR), he_5, rfl, rfl, rfl, rfl⟩
    · skip
      refine JC.condF (congrArg Value.bool (decide_eq_false h_8)) ?_
      refine JC.exit ?_
      refine JQ.thenExit ?_
      refine JQ.thenExit ?_
      refine JQ.blockE ?_
      refine JQ.seq ?_
      refine JC.seq ?_
      refine JC.region ?_
      refine JL.pure rfl (PO.move (v := .int .i64 l1) he_6) ?_
      refine JL.pure rfl (PO.assign (v := .int .i64 l1) rfl) ?_
      refine JL.nil ?_
      refine JQ.seq ?_
      refine JC.ret ?_
      refine Done.one (.inl rfl) rfl (RV.tmp (v := .int .i64 l1) rfl) (List.nil_sublist _) ?_
      refine ⟨?_, rfl⟩
      rw [List.drop_of_length_le (by rw [List.length_map]; omega)] at hR
      rw [← hR]
      rfl

theorem C_toSlotS (a : Option Addr) (c : Nat) (s : List OX) (hn : s.length ≤ 1048576) (hl : ∀ q ∈ s, q.t.lim 1048576) :
    Ct Tryz.prog 60 [.slice a s.length c] [] (fun w => SeesAE w (rdsOS a c s)) (fun r A' => ∃ a' c' y, y.map OX.t = s.map OX.t ∧ r = .slice a' y.length c' ∧ A' = [.rows (rdsOS a' c' y)]) := by
  refine Ct.intro Tryz.func60 rfl Tryz.ntmps60 (Nat.le_of_ble_eq_true rfl) fun w0 hpre => ?_
  have hs_1 : SeesE w0 (.slice a s.length c) 3 s.length (s.flatMap encO) := (hpre).head
  have hi_2 : SeesAE w0 (s.flatMap rdsO) := (hpre).tail
  refine JC.seq ?_
  refine JC.region ?_
  refine JL.pure rfl (PO.assign (v := .slice none 0 0) rfl) ?_
  refine JL.nil ?_
  refine JQ.seq ?_
  refine JC.seq ?_
  refine JC.region ?_
  refine JL.pure rfl (PO.move (v := .slice a s.length c) rfl) ?_
  refine JL.pure rfl (PO.lenV Tryz.underlying22 rfl) ?_
  refine JL.op rfl (JO.makeSlice (z := .agg #[.int .i64 0, .slice none 0 0, .bool false]) (zc := [.int .i64 0, .slice none 0 0, .bool false]) (m := s.length) Tryz.underlying28 Tryz.typeInfo60 rfl rfl rfl rfl rfl (by unfold maxLen; omega) (by show 40 * _ ≤ _; omega)) ?_
  rintro _ _ ⟨a_3, rfl, rfl⟩
  refine JL.pure rfl (PO.assign (v := .slice a_3 s.length s.length) rfl) ?_
  refine JL.nil ?_
  refine JQ.seq ?_
  refine JC.seq ?_
  refine JC.seq ?_
  refine JC.region ?_
  refine JL.pure rfl (PO.assign (v := .int .i64 0) rfl) ?_
  refine JL.nil ?_
  refine JQ.seq ?_
  refine JC.block ?_
  refine JC.ghost (L' := [Res.row (.slice a_3 s.length s.length) 60 3 s.length ((List.replicate s.length o0).flatMap encO), Res.rows (([] : List OX).flatMap rdsO)]) (fun w hw => St.rowsNil' (hw.eqL (by rw [flatO]; rfl))) ?_
  refine JC.loop (fun k_ e_ L_ => ∃ j : Nat, ∃ y : List OX, (j ≤ s.length) ∧ (y.map OX.t = (s.take j).map OX.t) ∧ e_ 0 = .slice a s.length c ∧ e_ 2 = .slice none 0 0 ∧ e_ 3 = .slice a_3 s.length s.length ∧ e_ 4 = .int .i64 ((j : Nat) : Int) ∧ L_ = [Res.row (.slice a_3 s.length s.length) 60 3 s.length ((y ++ List.replicate (s.length - j) o0).flatMap encO), Res.rows (y.flatMap rdsO)] ∧ k_ = s.length - j) _ ⟨0, ([] : List OX), by omega, rfl, rfl, rfl, rfl, rfl, rfl, rfl⟩ ?_
  rintro _ e_4 _ ⟨j, y, hj, hd, he_5, he_6, he_7, he_8, rfl, rfl⟩
  refine JC.seq ?_
  refine JC.seq ?_
  refine JC.region ?_
  refine JL.pure rfl (PO.move (v := .int .i64 ((j : Nat) : Int)) he_8) ?_
  refine JL.pure rfl (PO.move (v := .slice a s.length c) he_5) ?_
  refine JL.pure rfl (PO.lenV Tryz.underlying22 rfl) ?_
  refine JL.pure rfl (PO.lss rfl rfl) ?_
  refine JL.nil ?_
  refine JQ.seq ?_
  by_cases h_9 : ((j : Nat) : Int) < ((s.length : Nat) : Int)
  · skip
    have hlt : j < s.length := by omega
    have hf_10 := SeesE.full hs_1 (by omega)
    refine JC.condT (congrArg Value.bool (decide_eq_true h_9)) ?_
    refine JC.skip ?_
    refine JQ.seq ?_
    refine JC.seq ?_
    refine JC.block ?_
    refine JC.region ?_
    refine JL.pure rfl (PO.move (v := .slice a_3 s.length s.length) he_7) ?_
    refine JL.pure rfl (PO.move (v := .int .i64 ((j : Nat) : Int)) he_8) ?_
    refine JL.pure rfl (PO.move (v := .slice a s.length c) he_5) ?_
    refine JL.pure rfl (PO.move (v := .int .i64 ((j : Nat) : Int)) he_8) ?_
    obtain ⟨hr_11, hr_11b, -⟩ := sees_some hf_10 (by omega)
    refine JL.pure rfl (PO.indexAddrV (i := j) Tryz.underlying22 Tryz.sizeOf118 hr_11 hr_11b rfl rfl (by omega)) ?_
    have hi_12 := SeesAE.elem hi_2 o0 (show j < s.length by omega)
    have hs_13 := seesOE hi_12
    refine JL.ld rfl (LO.loadSK (vs := [.int .i64 ((s.getD j o0).t.seq), .slice ((s.getD j o0).x.a0) ((s.getD j o0).t.cells.length) ((s.getD j o0).x.c0), .bool ((s.getD j o0).t.whole)]) hf_10 (fun _ _ => List.not_mem_nil) rfl Tryz.isAgg118 Tryz.sizeOf118 (flat_take encO_len o0 s j (by omega)) rfl (by decide)) ?_
    refine JL.op rfl (JO.call [] Tryz.call108 rfl (C_toSlot (s.getD j o0) (hl _ (getD_mem hlt))) rfl (fun w hw => hw.seeOutAE hi_12 nMA)) ?_
    rintro _ _ ⟨_, ⟨y_14, hy_15, rfl, rfl⟩, rfl⟩
    refine JL.facts fun hst => ?_
    obtain ⟨hr_16, hr_16b, -⟩ := row_some 1 rfl (by omega) hst
    refine JL.pure rfl (PO.indexAddrV (i := j) Tryz.underlying28 Tryz.sizeOf60 hr_16 hr_16b rfl rfl (by omega)) ?_
    refine JL.op rfl (JO.storeR 1 (vs := [.int .i64 y_14.t.seq, .slice y_14.x.a0 y_14.t.cells.length y_14.x.c0, .bool y_14.t.whole]) (cs' := ((y ++ List.replicate (s.length - j) o0).set j y_14).flatMap encO) rfl rfl rfl rfl Tryz.sizeOf60 rfl rfl (by decide) (by rw [flat_length encO_len]; rw [List.length_append, List.length_replicate, map_len hd hj]; omega) (flat_set encO_len (y ++ List.replicate (s.length - j) o0) j y_14 (by rw [List.length_append, List.length_replicate, map_len hd hj]; omega))) ?_
    rintro _ _ rfl
    refine JL.nil ?_
    refine JQ.blockN ?_
    refine JQ.seq ?_
    refine JC.region ?_
    refine JL.pure rfl (PO.move (v := .int .i64 ((j : Nat) : Int)) he_8) ?_
    refine JL.pure rfl (PO.add (c := ((j + 1 : Nat) : Int)) rfl rfl (wr (by omega))) ?_
    refine JL.pure rfl (PO.assign (v := .int .i64 ((j + 1 : Nat) : Int)) rfl) ?_
    refine JL.nil ?_
    refine JQ.ghost (L' := [Res.rows ((y ++ [y_14]).flatMap rdsO), Res.row (.slice a_3 s.length s.length) 60 3 s.length (((y ++ List.replicate (s.length - j) o0).set j y_14).flatMap encO)]) (fun w hw => hw.addR [2, 0] rfl flatMap_snoc) ?_
    refine JQ.ghost (L' := [Res.rows ((y ++ [y_14]).flatMap rdsO), Res.row (.slice a_3 s.length s.length) 60 3 s.length (((y ++ [y_14]) ++ List.replicate (s.length - (j + 1)) o0).flatMap encO)]) (fun w hw => hw.eqL (by rw [fillV_step (map_len hd hj) hlt])) ?_
    refine JQ.pick [1, 0] (A := [Res.row (.slice a_3 s.length s.length) 60 3 s.length (((y ++ [y_14]) ++ List.replicate (s.length - (j + 1)) o0).flatMap encO), Res.rows ((y ++ [y_14]).flatMap rdsO)]) rfl ?_
    refine JQ.again (s.length - (j + 1)) (by omega) ⟨j + 1, (y ++ [y_14]), by omega, (map_take_succ o0 hd hlt hy_15), he_5, he_6, he_7, rfl, rfl, rfl⟩
  · skip
    refine JC.condF (congrArg Value.bool (decide_eq_false h_9)) ?_
    refine JC.exit ?_
    refine JQ.thenExit ?_
    refine JQ.thenExit ?_
    refine JQ.blockE ?_
    refine JQ.seq ?_
    refine JC.seq ?_
    refine JC.region ?_
    refine JL.pure rfl (PO.move (v := .slice a_3 s.length s.length) he_7) ?_
    refine JL.pure rfl (PO.assign (v := .slice a_3 s.length s.length) rfl) ?_
    refine JL.nil ?_
    refine JQ.seq ?_
    refine JC.ret ?_
    have hly := map_len hd hj
    obtain rfl : j = s.length := by omega
    refine JQ.ghost (L' := [Res.row (.slice a_3 y.length s.length) 60 3 y.length (y.flatMap encO), Res.rows (y.flatMap rdsO)]) (fun w hw => hw.eqL (by simp only [Nat.sub_self, List.replicate_zero, List.append_nil, hly])) ?_
    refine JQ.ghost (L' := [Res.rows (rdsOS a_3 s.length y)]) (fun w hw => hw.consR (r := ⟨.slice a_3 y.length s.length, 60, 3, y.length, y.flatMap encO⟩) (A := y.flatMap rdsO) [0, 0] rfl) ?_
    refine Done.one (.inl rfl) rfl (RV.tmp (v := .slice a_3 s.length s.length) rfl) (List.Sublist.refl _) ?_
    exact ⟨a_3, s.length, y, map_all hd (Nat.le_refl _), by rw [hly], rfl⟩

theorem C_eqSlotS (a b : Option Addr) (c c' : Nat) (s t : List OX) (hn : s.length ≤ 9223372036854775807) (hl : ∀ q ∈ s, q.t.lim 1000000000) :
    Ct Tryz.prog 65 [.slice a s.length c, .slice b t.length c'] [] (fun w => SeesA w (rdsOS a c s) ∧ SeesA w (rdsOS b c' t)) (fun r A' => r = .bool (decide (s.map OX.t = t.map OX.t)) ∧ A' = []) := by
  refine Ct.intro Tryz.func65 rfl Tryz.ntmps65 (Nat.le_of_ble_eq_true rfl) fun w0 hpre => ?_
  have hs_1 : Sees w0 (.slice a s.length c) 3 s.length (s.flatMap encO) := (hpre.1).head
  have hi_2 : SeesA w0 (s.flatMap rdsO) := (hpre.1).tail
  have hs_3 : Sees w0 (.slice b t.length c') 3 t.length (t.flatMap encO) := (hpre.2).head
  have hi_4 : SeesA w0 (t.flatMap rdsO) := (hpre.2).tail
  refine JC.seq ?_
  refine JC.region ?_
  refine JL.pure rfl (PO.assign (v := .bool false) rfl) ?_
  refine JL.nil ?_
  refine JQ.seq ?_
  refine JC.seq ?_
  refine JC.seq ?_
  refine JC.region ?_
  refine JL.pure rfl (PO.move (v := .slice a s.length c) rfl) ?_
  refine JL.pure rfl (PO.lenV Tryz.underlying28 rfl) ?_
  refine JL.pure rfl (PO.move (v := .slice b t.length c') rfl) ?_
  refine JL.pure rfl (PO.lenV Tryz.underlying28 rfl) ?_
  refine JL.pure rfl (PO.neqI rfl rfl) ?_
  refine JL.nil ?_
  refine JQ.seq ?_
  by_cases h_5 : ((s.length : Nat) : Int) = ((t.length : Nat) : Int)
  · skip
    have hlen := h_5
    refine JC.condF (congrArg Value.bool (congrArg Bool.not (decide_eq_true h_5))) ?_
    refine JC.skip ?_
    refine JQ.seq ?_
    refine JC.seq ?_
    refine JC.seq ?_
    refine JC.region ?_
    refine JL.pure rfl (PO.assign (v := .int .i64 0) rfl) ?_
    refine JL.nil ?_
    refine JQ.seq ?_
    refine JC.block ?_
    refine JC.loop (fun k_ e_ L_ => ∃ j : Nat, (j ≤ s.length) ∧ ((s.take j).map OX.t = (t.take j).map OX.t) ∧ (s.length = t.length) ∧ e_ 0 = .slice a s.length c ∧ e_ 1 = .slice b t.length c' ∧ e_ 5 = .int .i64 ((j : Nat) : Int) ∧ L_ = [] ∧ k_ = s.length - j) _ ⟨0, by omega, rfl, by omega, rfl, rfl, rfl, rfl, rfl⟩ ?_
    rintro _ e_6 _ ⟨j, hj, hE, hln, he_7, he_8, he_9, rfl, rfl⟩
    refine JC.seq ?_
    refine JC.seq ?_
    refine JC.region ?_
    refine JL.pure rfl (PO.move (v := .int .i64 ((j : Nat) : Int)) he_9) ?_
    refine JL.pure rfl (PO.move (v := .slice a s.length c) he_7) ?_
    refine JL.pure rfl (PO.lenV Tryz.underlying28 rfl) ?_
    refine JL.pure rfl (PO.lss rfl rfl) ?_
    refine JL.nil ?_
    refine JQ.seq ?_
    by_cases h_10 : ((j : Nat) : Int) < ((s.length : Nat) : Int)
    · skip
      have hlt : j < s.length := by omega
      refine JC.condT (congrArg Value.bool (decide_eq_true h_10)) ?_
      refine JC.skip ?_
      refine JQ.seq ?_
      refine JC.seq ?_
      refine JC.block ?_
      refine JC.seq ?_
      refine JC.regionA [] 1000 mixed (by simp) ?_
      refine JA.takeP 0 rfl (by kernel_rfl) (NP.th (NP.bl (NP.th (NP.th (NP.bl (NP.th NP.body)))))) (by kernel_rfl) (by kernel_rfl) rfl (PO.move (v := .slice a s.length c) he_7) ?_
      refine JA.takeP 1 rfl (by kernel_rfl) (NP.th (NP.bl (NP.th (NP.th (NP.bl (NP.th NP.body)))))) (by kernel_rfl) (by kernel_rfl) rfl (PO.move (v := .int .i64 ((j : Nat) : Int)) he_9) ?_
      obtain ⟨hr_11, hr_11b, -⟩ := sees_some hs_1 (by omega)
      refine JA.takeP 2 rfl (by kernel_rfl) (NP.th (NP.bl (NP.th (NP.th (NP.bl (NP.th NP.body)))))) (by kernel_rfl) (by kernel_rfl) rfl (PO.indexAddrV (i := j) Tryz.underlying28 Tryz.sizeOf60 hr_11 hr_11b rfl rfl (by omega)) ?_
      have hi_12 := SeesA.elem hi_2 o0 (show j < s.length by omega)
      have hs_13 := seesO hi_12
      refine JA.take 3 rfl (by kernel_rfl) (NP.th (NP.bl (NP.th (NP.th (NP.bl (NP.th NP.body)))))) (by kernel_rfl) (by kernel_rfl) (by kernel_rfl) rfl (LO.loadSK (vs := [.int .i64 ((s.getD j o0).t.seq), .slice ((s.getD j o0).x.a0) ((s.getD j o0).t.cells.length) ((s.getD j o0).x.c0), .bool ((s.getD j o0).t.whole)]) hs_1 (fun _ _ => List.not_mem_nil) rfl Tryz.isAgg60 Tryz.sizeOf60 (flat_take encO_len o0 s j (by omega)) rfl (by decide)) ?_
      refine JA.takeP 4 rfl (by kernel_rfl) (NP.th (NP.bl (NP.th (NP.th (NP.bl (NP.th NP.body)))))) (by kernel_rfl) (by kernel_rfl) rfl (PO.move (v := .slice b t.length c') he_8) ?_
      refine JA.takeP 5 rfl (by kernel_rfl) (NP.th (NP.bl (NP.th (NP.th (NP.bl (NP.th NP.body)))))) (by kernel_rfl) (by kernel_rfl) rfl (PO.move (v := .int .i64 ((j : Nat) : Int)) he_9) ?_
      obtain ⟨hr_14, hr_14b, -⟩ := sees_some hs_3 (by omega)
      refine JA.takeP 6 rfl (by kernel_rfl) (NP.th (NP.bl (NP.th (NP.th (NP.bl (NP.th NP.body)))))) (by kernel_rfl) (by kernel_rfl) rfl (PO.indexAddrV (i := j) Tryz.underlying28 Tryz.sizeOf60 hr_14 hr_14b rfl rfl (by omega)) ?_
      have hi_15 := SeesA.elem hi_4 o0 (show j < t.length by omega)
      have hs_16 := seesO hi_15
      refine JA.take 7 rfl (by kernel_rfl) (NP.th (NP.bl (NP.th (NP.th (NP.bl (NP.th NP.body)))))) (by kernel_rfl) (by kernel_rfl) (by kernel_rfl) rfl (LO.loadSK (vs := [.int .i64 ((t.getD j o0).t.seq), .slice ((t.getD j o0).x.a0) ((t.getD j o0).t.cells.length) ((t.getD j o0).x.c0), .bool ((t.getD j o0).t.whole)]) hs_3 (fun _ _ => List.not_mem_nil) rfl Tryz.isAgg60 Tryz.sizeOf60 (flat_take encO_len o0 t j (by omega)) rfl (by decide)) ?_
      refine JA.one (i := 8) (by kernel_rfl) ?_
      refine JX.op rfl rfl (JO.call [] Tryz.call116 rfl (C_eqSlot (s.getD j o0) (t.getD j o0) (hl _ (getD_mem hlt))) rfl (fun w hw => ⟨hw.seeOutA hi_12 nMA, hw.seeOutA hi_15 nMA⟩)) ?_
      rintro _ _ ⟨_, ⟨rfl, rfl⟩, rfl⟩
      refine ⟨(fun _ h => by cases h), ?_⟩
      refine JA.takeP 9 rfl (by kernel_rfl) (NP.th (NP.bl (NP.th (NP.th (NP.bl (NP.th NP.body)))))) (by kernel_rfl) (by kernel_rfl) rfl (PO.not rfl) ?_
      refine JA.done (by kernel_rfl) ?_
      refine JQ.seq ?_
      by_cases h_17 : (s.getD j o0).t = (t.getD j o0).t
      · skip
        have heq := h_17
        refine JC.condF (congrArg Value.bool (congrArg Bool.not (decide_eq_true h_17))) ?_
        refine JC.skip ?_
        refine JQ.blockN ?_
        refine JQ.seq ?_
        refine JC.region ?_
        refine JL.pure rfl (PO.move (v := .int .i64 ((j : Nat) : Int)) he_9) ?_
        refine JL.pure rfl (PO.add (c := ((j + 1 : Nat) : Int)) rfl rfl (wr (by omega))) ?_
        refine JL.pure rfl (PO.assign (v := .int .i64 ((j + 1 : Nat) : Int)) rfl) ?_
        refine JL.nil ?_
        refine JQ.again (s.length - (j + 1)) (by omega) ⟨j + 1, by omega, take_succM_eq o0 hE hlt hln heq, hln, he_7, he_8, rfl, rfl, rfl⟩
      · skip
        have hne := h_17
        refine JC.condT (congrArg Value.bool (congrArg Bool.not (decide_eq_false h_17))) ?_
        refine JC.seq ?_
        refine JC.region ?_
        refine JL.pure rfl (PO.assign (v := .bool false) rfl) ?_
        refine JL.nil ?_
        refine JQ.seq ?_
        refine JC.ret ?_
        refine JQ.blockRet ?_
        refine JQ.thenRet ?_
        refine JQ.thenRet ?_
        refine JQ.blockRet ?_
        refine JQ.thenRet ?_
        refine Done.one (.inl rfl) rfl (RV.tmp (v := .bool false) rfl) (List.nil_sublist _) ?_
        refine ⟨?_, rfl⟩
        rw [decide_eq_false (fun h => hne (getM_eq o0 h hlt hln))]
    · skip
      refine JC.condF (congrArg Value.bool (decide_eq_false h_10)) ?_
      refine JC.exit ?_
      refine JQ.thenExit ?_
      refine JQ.thenExit ?_
      refine JQ.blockE ?_
      refine JQ.seq ?_
      refine JC.seq ?_
      refine JC.region ?_
      refine JL.pure rfl (PO.assign (v := .bool true) rfl) ?_
      refine JL.nil ?_
      refine JQ.seq ?_
      refine JC.ret ?_
      refine Done.one (.inl rfl) rfl (RV.tmp (v := .bool true) rfl) (List.nil_sublist _) ?_
      refine ⟨?_, rfl⟩
      rw [decide_eq_true (take_allM_eq hE (by omega) (by omega))]
  · skip
    have hlen := h_5
    refine JC.condT (congrArg Value.bool (congrArg Bool.not (decide_eq_false h_5))) ?_
    refine JC.seq ?_
    refine JC.region ?_
    refine JL.pure rfl (PO.assign (v := .bool false) rfl) ?_
    refine JL.nil ?_
    refine JQ.seq ?_
    refine JC.ret ?_
    refine JQ.thenRet ?_
    refine Done.one (.inl rfl) rfl (RV.tmp (v := .bool false) rfl) (List.nil_sublist _) ?_
    refine ⟨?_, rfl⟩
    rw [decide_eq_false (fun h => by have h2 := congrArg List.length h; rw [List.length_map, List.length_map] at h2; omega)]

set_option maxRecDepth 4000 in
set_option maxHeartbeats 1000000 in
theorem C_markSlotS (a : Option Addr) (c : Nat) (l : List OX) (k : Nat) (h0 : 0 < k) (h1 : k + cntV cntO l ≤ 100000000) (hn : l.length ≤ 1000000000) :
    Ct Tryz.prog 67 [.slice a l.length c, .int .i64 ((k : Nat) : Int)] [Res.rows (rdsOS a c l)] (fun _ => True) (fun v A' => v = .int .i64 ((k + cntV cntO l : Nat) : Int) ∧ A' = [.rows (rdsOS a c (markV mkO cntO l k))]) := by
  refine Ct.intro Tryz.func67 rfl Tryz.ntmps67 (Nat.le_of_ble_eq_true rfl) fun w0 hpre => ?_
  refine JC.ghost (L' := [Res.row (.slice a l.length c) 60 3 l.length (l.flatMap encO), Res.rows (l.flatMap rdsO)]) (fun w hw => hw.headR (r := ⟨.slice a l.length c, 60, 3, l.length, l.flatMap encO⟩) (A := l.flatMap rdsO) 0 rfl) ?_
  refine JC.seq ?_
  refine JC.region ?_
  refine JL.pure rfl (PO.assign (v := .int .i64 0) rfl) ?_
  refine JL.nil ?_
  refine JQ.seq ?_
  refine JC.seq ?_
  refine JC.seq ?_
  refine JC.region ?_
  refine JL.pure rfl (PO.assign (v := .int .i64 0) rfl) ?_
  refine JL.nil ?_
  refine JQ.seq ?_
  refine JC.block ?_
  refine JC.loop (fun k_ e_ L_ => ∃ j : Nat, ∃ kk : Nat, ∃ Q : List OX, (j ≤ l.length) ∧ (kk = k + cntV cntO (l.take j)) ∧ (Q = (markV mkO cntO l k).take j) ∧ (Q.length = j) ∧ e_ 0 = .slice a l.length c ∧ e_ 1 = .int .i64 ((kk : Nat) : Int) ∧ e_ 4 = .int .i64 0 ∧ e_ 5 = .int .i64 ((j : Nat) : Int) ∧ L_ = [Res.row (.slice a l.length c) 60 3 l.length ((Q ++ l.drop j).flatMap encO), Res.rows ((Q ++ l.drop j).flatMap rdsO)] ∧ k_ = l.length - j) _ ⟨0, k, [], by omega, rfl, rfl, rfl, rfl, rfl, rfl, rfl, rfl, rfl⟩ ?_
  rintro _ e_1 _ ⟨j, kk, Q, hj, hkk, hQ, hQl, he_2, he_3, he_4, he_5, rfl, rfl⟩
  refine JC.seq ?_
  refine JC.seq ?_
  refine JC.region ?_
  refine JL.pure rfl (PO.move (v := .int .i64 ((j : Nat) : Int)) he_5) ?_
  refine JL.pure rfl (PO.move (v := .slice a l.length c) he_2) ?_
  refine JL.pure rfl (PO.lenV Tryz.underlying28 rfl) ?_
  refine JL.pure rfl (PO.lss rfl rfl) ?_
  refine JL.nil ?_
  refine JQ.seq ?_
  by_cases h_6 : ((j : Nat) : Int) < ((l.length : Nat) : Int)
  · skip
    have hlt : j < l.length := by omega
    have hb : cntV cntO (l.take j) + cntO (l.getD j o0) ≤ cntV cntO l := cntV_le o0 hlt
    simp only [cntO] at hb
    refine JC.ghost (L' := [Res.row (.slice ((l.getD j o0).x.a0) ((l.getD j o0).t.cells.length) ((l.getD j o0).x.c0)) 48 2 (((l.getD j o0).t.cells).length) (((l.getD j o0).t.cells).flatMap encC), Res.rows (Q.flatMap rdsO), Res.rows ((l.drop (j + 1)).flatMap rdsO), Res.row (.slice a l.length c) 60 3 l.length (mid encO Q [.int .i64 ((l.getD j o0).t.seq), .slice ((l.getD j o0).x.a0) ((l.getD j o0).t.cells.length) ((l.getD j o0).x.c0), .bool ((l.getD j o0).t.whole)] (l.drop (j + 1)))]) (fun w hw => St.openR 1 rfl (St.splitR 1 rfl (flatMap_mid o0 hlt) (hw.midR 0 rfl o0 hlt))) ?_
    refine JC.condT (congrArg Value.bool (decide_eq_true h_6)) ?_
    refine JC.skip ?_
    refine JQ.seq ?_
    refine JC.seq ?_
    refine JC.block ?_
    refine JC.seq ?_
    refine JC.region ?_
    refine JL.pure rfl (PO.move (v := .slice a l.length c) he_2) ?_
    refine JL.pure rfl (PO.move (v := .int .i64 ((j : Nat) : Int)) he_5) ?_
    refine JL.pure rfl (PO.move (v := .int .i64 ((kk : Nat) : Int)) he_3) ?_
    refine JL.facts fun hst => ?_
    obtain ⟨hr_7, hr_7b, -⟩ := row_some 3 rfl (by omega) hst
    refine JL.pure rfl (PO.indexAddrV (i := j) Tryz.underlying28 Tryz.sizeOf60 hr_7 hr_7b rfl rfl (by omega)) ?_
    refine JL.pure rfl (PO.fieldAddrE fo60_0 hr_7 rfl) ?_
    refine JL.op rfl (JO.storeR 3 (vs := [.int .i64 ((kk : Nat) : Int)]) (cs' := mid encO Q [.int .i64 ((kk : Nat) : Int), .slice ((l.getD j o0).x.a0) ((l.getD j o0).t.cells.length) ((l.getD j o0).x.c0), .bool ((l.getD j o0).t.whole)] (l.drop (j + 1))) rfl rfl rfl rfl Tryz.sizeOf3 rfl rfl (by decide) (mid_fit encO_len rfl hQl (f := 0) (lb rfl)) (mid_set encO_len rfl hQl 0 [.int .i64 ((kk : Nat) : Int)] (lb rfl))) ?_
    rintro _ _ rfl
    refine JL.nil ?_
    refine JQ.seq ?_
    refine JC.seq ?_
    refine JC.region ?_
    refine JL.pure rfl (PO.move (v := .int .i64 ((kk : Nat) : Int)) he_3) ?_
    refine JL.pure rfl (PO.add (c := ((kk + 1 : Nat) : Int)) rfl rfl (wr (by omega))) ?_
    refine JL.pure rfl (PO.assign (v := .int .i64 ((kk + 1 : Nat) : Int)) rfl) ?_
    refine JL.nil ?_
    refine JQ.seq ?_
    refine JC.seq ?_
    refine JC.region ?_
    refine JL.pure rfl (PO.move (v := .slice a l.length c) he_2) ?_
    refine JL.pure rfl (PO.move (v := .int .i64 ((j : Nat) : Int)) he_5) ?_
    refine JL.pure rfl (PO.indexAddrV (i := j) Tryz.underlying28 Tryz.sizeOf60 hr_7 hr_7b rfl rfl (by omega)) ?_
    refine JL.pure rfl (PO.fieldAddrE fo60_1 hr_7 rfl) ?_
    refine JL.ld rfl (LO.loadR1 3 (v := .slice ((l.getD j o0).x.a0) ((l.getD j o0).t.cells.length) ((l.getD j o0).x.c0)) rfl rfl Tryz.isAgg49 (mid_at encO_len rfl hQl 1 (by decide))) ?_
    refine JL.pure rfl (PO.move (v := .int .i64 ((kk + 1 : Nat) : Int)) rfl) ?_
    refine JL.op rfl (JO.call [0] Tryz.call117 rfl (C_markCellS (l.getD j o0).x.a0 ((l.getD j o0).x.c0) ((l.getD j o0).t.cells) (kk + 1) (by omega) (by omega)) rfl (fun _ _ => trivial)) ?_
    rintro _ _ ⟨_, ⟨rfl, rfl⟩, rfl⟩
    refine JL.pure rfl (PO.assign (v := .int .i64 ((kk + 1 + 2 * ((l.getD j o0).t.cells).length : Nat) : Int)) rfl) ?_
    refine JL.nil ?_
    refine JQ.seq ?_
    refine JC.seq ?_
    refine JC.region ?_
    refine JL.pure rfl (PO.move (v := .slice a l.length c) he_2) ?_
    refine JL.pure rfl (PO.move (v := .int .i64 ((j : Nat) : Int)) he_5) ?_
    refine JL.pure rfl (PO.move (v := .int .i64 ((kk + 1 + 2 * ((l.getD j o0).t.cells).length : Nat) : Int)) rfl) ?_
    refine JL.pure rfl (PO.remN (c := (((kk + 1 + 2 * ((l.getD j o0).t.cells).length) % 3 : Nat) : Int)) rfl rfl (by omega) (by omega) (by omega)) ?_
    refine JL.pure rfl (PO.eqlI rfl rfl) ?_
    refine JL.pure rfl (PO.indexAddrV (i := j) Tryz.underlying28 Tryz.sizeOf60 hr_7 hr_7b rfl rfl (by omega)) ?_
    refine JL.pure rfl (PO.fieldAddrE fo60_2 hr_7 rfl) ?_
    refine JL.op rfl (JO.storeR 3 (vs := [.bool (decide ((((kk + 1 + 2 * ((l.getD j o0).t.cells).length) % 3 : Nat) : Int) = 0))]) (cs' := mid encO Q [.int .i64 ((kk : Nat) : Int), .slice ((l.getD j o0).x.a0) ((l.getD j o0).t.cells.length) ((l.getD j o0).x.c0), .bool (decide ((((kk + 1 + 2 * ((l.getD j o0).t.cells).length) % 3 : Nat) : Int) = 0))] (l.drop (j + 1))) rfl rfl rfl rfl Tryz.sizeOf4 rfl rfl (by decide) (mid_fit encO_len rfl hQl (f := 2) (lb rfl)) (mid_set encO_len rfl hQl 2 [.bool (decide ((((kk + 1 + 2 * ((l.getD j o0).t.cells).length) % 3 : Nat) : Int) = 0))] (lb rfl))) ?_
    rintro _ _ rfl
    refine JL.nil ?_
    refine JQ.seq ?_
    refine JC.region ?_
    refine JL.pure rfl (PO.move (v := .int .i64 ((kk + 1 + 2 * ((l.getD j o0).t.cells).length : Nat) : Int)) rfl) ?_
    refine JL.pure rfl (PO.add (c := (((kk + 1 + 2 * ((l.getD j o0).t.cells).length) + 1 : Nat) : Int)) rfl rfl (wr (by omega))) ?_
    refine JL.pure rfl (PO.assign (v := .int .i64 (((kk + 1 + 2 * ((l.getD j o0).t.cells).length) + 1 : Nat) : Int)) rfl) ?_
    refine JL.nil ?_
    refine JQ.blockN ?_
    refine JQ.seq ?_
    refine JC.region ?_
    refine JL.pure rfl (PO.move (v := .int .i64 ((j : Nat) : Int)) he_5) ?_
    refine JL.pure rfl (PO.add (c := ((j + 1 : Nat) : Int)) rfl rfl (wr (by omega))) ?_
    refine JL.pure rfl (PO.assign (v := .int .i64 ((j + 1 : Nat) : Int)) rfl) ?_
    refine JL.nil ?_
    refine JQ.ghost (L' := [Res.rows (((Q ++ [mkO (l.getD j o0) kk]) ++ l.drop (j + 1)).flatMap rdsO), Res.row (.slice a l.length c) 60 3 l.length (((Q ++ [mkO (l.getD j o0) kk]) ++ l.drop (j + 1)).flatMap encO)]) (fun w hw => St.joinR [2, 0, 1] rfl (by rw [flatMap_mid2, rdsO_mk]) (St.closeR (A := ([⟨.slice ((l.getD j o0).x.a0) ((l.getD j o0).t.cells.length) ((l.getD j o0).x.c0), 48, 2, ((l.getD j o0).t.cells).length, (markC ((l.getD j o0).t.cells) (kk + 1)).flatMap encC⟩] : List RD)) [1] rfl (hw.unmid 3 rfl (q := mkO (l.getD j o0) kk) (encO_mk _ _)))) ?_
    refine JQ.pick [1, 0] (A := [Res.row (.slice a l.length c) 60 3 l.length (((Q ++ [mkO (l.getD j o0) kk]) ++ l.drop (j + 1)).flatMap encO), Res.rows (((Q ++ [mkO (l.getD j o0) kk]) ++ l.drop (j + 1)).flatMap rdsO)]) rfl ?_
    refine JQ.again (l.length - (j + 1)) (by omega) ⟨j + 1, (kk + 1 + 2 * ((l.getD j o0).t.cells).length) + 1, (Q ++ [mkO (l.getD j o0) kk]), by omega, (by rw [cntV_step o0 hlt]; simp only [cntO]; omega), (by rw [markV_step o0 hlt, ← hQ, ← hkk]), (by rw [List.length_append, hQl]; rfl), he_2, rfl, he_4, rfl, rfl, rfl⟩
  · skip
    refine JC.condF (congrArg Value.bool (decide_eq_false h_6)) ?_
    refine JC.exit ?_
    refine JQ.thenExit ?_
    refine JQ.thenExit ?_
    refine JQ.blockE ?_
    refine JQ.seq ?_
    refine JC.seq ?_
    refine JC.region ?_
    refine JL.pure rfl (PO.move (v := .int .i64 ((kk : Nat) : Int)) he_3) ?_
    refine JL.pure rfl (PO.assign (v := .int .i64 ((kk : Nat) : Int)) rfl) ?_
    refine JL.nil ?_
    refine JQ.seq ?_
    refine JC.ret ?_
    have hz : Q ++ l.drop j = markV mkO cntO l k := by rw [hQ, List.drop_of_length_le (by omega), List.append_nil, markV_all (by omega)]
    refine JQ.ghost (L' := [Res.row (.slice a ((markV mkO cntO l k).length) c) 60 3 ((markV mkO cntO l k).length) ((markV mkO cntO l k).flatMap encO), Res.rows ((markV mkO cntO l k).flatMap rdsO)]) (fun w hw => hw.eqL (by rw [hz, markV_len])) ?_
    refine JQ.ghost (L' := [Res.rows (rdsOS a c (markV mkO cntO l k))]) (fun w hw => hw.consR (r := ⟨.slice a ((markV mkO cntO l k).length) c, 60, 3, (markV mkO cntO l k).length, (markV mkO cntO l k).flatMap encO⟩) (A := (markV mkO cntO l k).flatMap rdsO) [0, 0] rfl) ?_
    refine Done.one (.inl rfl) rfl (RV.tmp (v := .int .i64 ((kk : Nat) : Int)) rfl) (List.Sublist.refl _) ?_
    exact ⟨by rw [hkk, cntV_all (by omega)], rfl⟩

set_option maxRecDepth 4000 in
set_option maxHeartbeats 1000000 in
theorem C_heldSlotS (a : Option Addr) (c : Nat) (l : List OX) (k : Nat) (h0 : 0 < k) (h1 : k + cntV cntO l ≤ 100000000) (hn : l.length ≤ 1000000000) :
    Ct Tryz.prog 68 [.slice a l.length c, .int .i64 ((k : Nat) : Int)] [] (fun w => SeesA w (rdsOS a c (markV mkO cntO l k))) (fun v A' => v = .int .i64 ((k + cntV cntO l : Nat) : Int) ∧ A' = []) := by
  refine Ct.intro Tryz.func68 rfl Tryz.ntmps68 (Nat.le_of_ble_eq_true rfl) fun w0 hpre => ?_
  have hs : Sees w0 (.slice a l.length c) 3 l.length ((markV mkO cntO l k).flatMap encO) := by have h := hpre.head; simpa only [RD.sees, markV_len] using h
  have hi : SeesA w0 ((markV mkO cntO l k).flatMap rdsO) := hpre.tail
  refine JC.seq ?_
  refine JC.region ?_
  refine JL.pure rfl (PO.assign (v := .int .i64 0) rfl) ?_
  refine JL.nil ?_
  refine JQ.seq ?_
  refine JC.seq ?_
  refine JC.seq ?_
  refine JC.region ?_
  refine JL.pure rfl (PO.assign (v := .int .i64 0) rfl) ?_
  refine JL.nil ?_
  refine JQ.seq ?_
  refine JC.block ?_
  refine JC.loop (fun k_ e_ L_ => ∃ j : Nat, ∃ kk : Nat, (j ≤ l.length) ∧ (kk = k + cntV cntO (l.take j)) ∧ e_ 0 = .slice a l.length c ∧ e_ 1 = .int .i64 ((kk : Nat) : Int) ∧ e_ 5 = .int .i64 ((j : Nat) : Int) ∧ L_ = [] ∧ k_ = l.length - j) _ ⟨0, k, by omega, rfl, rfl, rfl, rfl, rfl, rfl⟩ ?_
  rintro _ e_1 _ ⟨j, kk, hj, hkk, he_2, he_3, he_4, rfl, rfl⟩
  refine JC.seq ?_
  refine JC.seq ?_
  refine JC.region ?_
  refine JL.pure rfl (PO.move (v := .int .i64 ((j : Nat) : Int)) he_4) ?_
  refine JL.pure rfl (PO.move (v := .slice a l.length c) he_2) ?_
  refine JL.pure rfl (PO.lenV Tryz.underlying28 rfl) ?_
  refine JL.pure rfl (PO.lss rfl rfl) ?_
  refine JL.nil ?_
  refine JQ.seq ?_
  by_cases h_5 : ((j : Nat) : Int) < ((l.length : Nat) : Int)
  · skip
    have hlt : j < l.length := by omega
    have hb : cntV cntO (l.take j) + cntO (l.getD j o0) ≤ cntV cntO l := cntV_le o0 hlt
    simp only [cntO] at hb
    have hget : (markV mkO cntO l k).getD j o0 = mkO (l.getD j o0) kk := by rw [markV_get o0 l k j hlt, ← hkk]
    have hin := SeesA.elem hi o0 (show j < (markV mkO cntO l k).length by rw [markV_len]; exact hlt)
    rw [hget] at hin
    have hs_6 := seesO_mk' hin
    refine JC.condT (congrArg Value.bool (decide_eq_true h_5)) ?_
    refine JC.skip ?_
    refine JQ.seq ?_
    refine JC.seq ?_
    refine JC.block ?_
    refine JC.seq ?_
    refine JC.seq ?_
    refine JC.region ?_
    refine JL.pure rfl (PO.move (v := .slice a l.length c) he_2) ?_
    refine JL.pure rfl (PO.move (v := .int .i64 ((j : Nat) : Int)) he_4) ?_
    obtain ⟨hr_7, hr_7b, -⟩ := sees_some hs (by omega)
    refine JL.pure rfl (PO.indexAddrV (i := j) Tryz.underlying28 Tryz.sizeOf60 hr_7 hr_7b rfl rfl (by omega)) ?_
    refine JL.pure rfl (PO.fieldAddrE fo60_0 hr_7 rfl) ?_
    refine JL.ld rfl (LO.loadS1 (v := .int .i64 ((kk : Nat) : Int)) hs (fun _ _ => List.not_mem_nil) rfl Tryz.isAgg3 (flat_atE encO_len o0 (markV mkO cntO l k) j 0 (by rw [markV_len]; exact hlt) (by decide) hget (encO_mk _ _))) ?_
    refine JL.pure rfl (PO.move (v := .int .i64 ((kk : Nat) : Int)) he_3) ?_
    refine JL.pure rfl (PO.neqI rfl rfl) ?_
    refine JL.nil ?_
    refine JQ.seq ?_
    refine JC.condF (congrArg Value.bool (congrArg Bool.not (decide_eq_true rfl))) ?_
    refine JC.skip ?_
    refine JQ.seq ?_
    refine JC.seq ?_
    refine JC.region ?_
    refine JL.pure rfl (PO.move (v := .int .i64 ((kk : Nat) : Int)) he_3) ?_
    refine JL.pure rfl (PO.add (c := ((kk + 1 : Nat) : Int)) rfl rfl (wr (by omega))) ?_
    refine JL.pure rfl (PO.assign (v := .int .i64 ((kk + 1 : Nat) : Int)) rfl) ?_
    refine JL.nil ?_
    refine JQ.seq ?_
    refine JC.seq ?_
    refine JC.region ?_
    refine JL.pure rfl (PO.move (v := .slice a l.length c) he_2) ?_
    refine JL.pure rfl (PO.move (v := .int .i64 ((j : Nat) : Int)) he_4) ?_
    refine JL.pure rfl (PO.indexAddrV (i := j) Tryz.underlying28 Tryz.sizeOf60 hr_7 hr_7b rfl rfl (by omega)) ?_
    refine JL.pure rfl (PO.fieldAddrE fo60_1 hr_7 rfl) ?_
    refine JL.ld rfl (LO.loadS1 (v := .slice ((l.getD j o0).x.a0) ((l.getD j o0).t.cells.length) ((l.getD j o0).x.c0)) hs (fun _ _ => List.not_mem_nil) rfl Tryz.isAgg49 (flat_atE encO_len o0 (markV mkO cntO l k) j 1 (by rw [markV_len]; exact hlt) (by decide) hget (encO_mk _ _))) ?_
    refine JL.pure rfl (PO.move (v := .int .i64 ((kk + 1 : Nat) : Int)) rfl) ?_
    refine JL.op rfl (JO.call [] Tryz.call118 rfl (Y_heldCellS (l.getD j o0).x.a0 ((l.getD j o0).x.c0) ((l.getD j o0).t.cells) (kk + 1) (by omega) (by omega)) rfl (fun w hw => hw.seeOut_ hs_6 (fun _ _ => List.not_mem_nil))) ?_
    rintro _ _ ⟨_, ⟨rfl, rfl⟩, rfl⟩
    refine JL.pure rfl (PO.assign (v := .int .i64 ((kk + 1 + 2 * ((l.getD j o0).t.cells).length : Nat) : Int)) rfl) ?_
    refine JL.nil ?_
    refine JQ.seq ?_
    refine JC.seq ?_
    refine JC.seq ?_
    refine JC.region ?_
    refine JL.pure rfl (PO.move (v := .int .i64 ((kk + 1 + 2 * ((l.getD j o0).t.cells).length : Nat) : Int)) rfl) ?_
    refine JL.pure rfl (PO.lss rfl rfl) ?_
    refine JL.nil ?_
    refine JQ.seq ?_
    by_cases h_8 : ((kk + 1 + 2 * ((l.getD j o0).t.cells).length : Nat) : Int) < 0
    · skip
      refine JC.condT (congrArg Value.bool (decide_eq_true h_8)) ?_
      refine JC.seq ?_
      refine JC.region ?_
      refine JL.pure rfl (PO.assign (v := .int .i64 (-1)) rfl) ?_
      refine JL.nil ?_
      refine JQ.seq ?_
      refine JC.ret ?_
      refine JQ.thenRet ?_
      refine JQ.blockRet ?_
      refine JQ.thenRet ?_
      refine JQ.thenRet ?_
      refine JQ.blockRet ?_
      refine JQ.thenRet ?_
      refine Done.one (.inl rfl) rfl (RV.tmp (v := .int .i64 (-1)) rfl) (List.nil_sublist _) ?_
      exfalso
      omega
    · skip
      refine JC.condF (congrArg Value.bool (decide_eq_false h_8)) ?_
      refine JC.skip ?_
      refine JQ.seq ?_
      refine JC.seq ?_
      refine JC.seq ?_
      refine JC.region ?_
      refine JL.pure rfl (PO.move (v := .slice a l.length c) he_2) ?_
      refine JL.pure rfl (PO.move (v := .int .i64 ((j : Nat) : Int)) he_4) ?_
      refine JL.pure rfl (PO.indexAddrV (i := j) Tryz.underlying28 Tryz.sizeOf60 hr_7 hr_7b rfl rfl (by omega)) ?_
      refine JL.pure rfl (PO.fieldAddrE fo60_2 hr_7 rfl) ?_
      refine JL.ld rfl (LO.loadS1 (v := .bool (decide ((((kk + 1 + 2 * ((l.getD j o0).t.cells).length) % 3 : Nat) : Int) = 0))) hs (fun _ _ => List.not_mem_nil) rfl Tryz.isAgg4 (flat_atE encO_len o0 (markV mkO cntO l k) j 2 (by rw [markV_len]; exact hlt) (by decide) hget (encO_mk _ _))) ?_
      refine JL.pure rfl (PO.move (v := .int .i64 ((kk + 1 + 2 * ((l.getD j o0).t.cells).length : Nat) : Int)) rfl) ?_
      refine JL.pure rfl (PO.remN (c := (((kk + 1 + 2 * ((l.getD j o0).t.cells).length) % 3 : Nat) : Int)) rfl rfl (by omega) (by omega) (by omega)) ?_
      refine JL.pure rfl (PO.eqlI rfl rfl) ?_
      refine JL.pure rfl (PO.neqB Tryz.underlying4 rfl rfl) ?_
      refine JL.nil ?_
      refine JQ.seq ?_
      refine JC.condF (congrArg Value.bool (congrArg Bool.not (decide_eq_true rfl))) ?_
      refine JC.skip ?_
      refine JQ.seq ?_
      refine JC.region ?_
      refine JL.pure rfl (PO.move (v := .int .i64 ((kk + 1 + 2 * ((l.getD j o0).t.cells).length : Nat) : Int)) rfl) ?_
      refine JL.pure rfl (PO.add (c := (((kk + 1 + 2 * ((l.getD j o0).t.cells).length) + 1 : Nat) : Int)) rfl rfl (wr (by omega))) ?_
      refine JL.pure rfl (PO.assign (v := .int .i64 (((kk + 1 + 2 * ((l.getD j o0).t.cells).length) + 1 : Nat) : Int)) rfl) ?_
      refine JL.nil ?_
      refine JQ.blockN ?_
      refine JQ.seq ?_
      refine JC.region ?_
      refine JL.pure rfl (PO.move (v := .int .i64 ((j : Nat) : Int)) he_4) ?_
      refine JL.pure rfl (PO.add (c := ((j + 1 : Nat) : Int)) rfl rfl (wr (by omega))) ?_
      refine JL.pure rfl (PO.assign (v := .int .i64 ((j + 1 : Nat) : Int)) rfl) ?_
      refine JL.nil ?_
      refine JQ.again (l.length - (j + 1)) (by omega) ⟨j + 1, (kk + 1 + 2 * ((l.getD j o0).t.cells).length) + 1, by omega, (by rw [cntV_step o0 hlt]; simp only [cntO]; omega), he_2, rfl, rfl, rfl, rfl⟩
  · skip
    refine JC.condF (congrArg Value.bool (decide_eq_false h_5)) ?_
    refine JC.exit ?_
    refine JQ.thenExit ?_
    refine JQ.thenExit ?_
    refine JQ.blockE ?_
    refine JQ.seq ?_
    refine JC.seq ?_
    refine JC.region ?_
    refine JL.pure rfl (PO.move (v := .int .i64 ((kk : Nat) : Int)) he_3) ?_
    refine JL.pure rfl (PO.assign (v := .int .i64 ((kk : Nat) : Int)) rfl) ?_
    refine JL.nil ?_
    refine JQ.seq ?_
    refine JC.ret ?_
    refine Done.one (.inl rfl) rfl (RV.tmp (v := .int .i64 ((kk : Nat) : Int)) rfl) (List.nil_sublist _) ?_
    exact ⟨by rw [hkk, cntV_all (by omega)], rfl⟩

theorem C_szJournal (t : Str) (s : Int) (l : Int) (h0 : 0 ≤ l) (h1 : l ≤ 1048576) (ht : t.length ≤ 9223372036854775807) :
    Ct Tryz.prog 55 [.agg #[str t, .int .i64 s], .int .i64 l] [] (fun _ => True) (fun r A' => r = .int .i64 (szJournalF t l) ∧ A' = []) := by
  refine Ct.intro Tryz.func55 rfl Tryz.ntmps55 (Nat.le_of_ble_eq_true rfl) fun w0 hpre => ?_
  refine JC.seq ?_
  refine JC.region ?_
  refine JL.op rfl (JO.box (cs := [str t, .int .i64 s]) rfl rfl) ?_
  rintro _ _ ⟨b_1, rfl, rfl⟩
  refine JL.pure rfl (PO.assign (v := .int .i64 0) rfl) ?_
  refine JL.nil ?_
  refine JQ.seq ?_
  refine JC.seq ?_
  refine JC.region ?_
  refine JL.pure rfl (PO.move (v := .int .i64 l) rfl) ?_
  refine JL.pure rfl (PO.fieldAddr fo24_0 rfl) ?_
  refine JL.ld rfl (LO.load1 0 (v := str t) rfl rfl Tryz.isAgg9 rfl) ?_
  refine JL.pure rfl (PO.lenS Tryz.underlying9 rfl) ?_
  refine JL.pure rfl (PO.sub (c := l - (t.length : Int)) rfl rfl (wr (by omega))) ?_
  refine JL.pure rfl (PO.assign (v := .int .i64 (l - (t.length : Int))) rfl) ?_
  refine JL.nil ?_
  refine JQ.seq ?_
  refine JC.seq ?_
  refine JC.seq ?_
  refine JC.region ?_
  refine JL.pure rfl (PO.move (v := .int .i64 (l - (t.length : Int))) rfl) ?_
  refine JL.pure rfl (PO.lss rfl rfl) ?_
  refine JL.nil ?_
  refine JQ.seq ?_
  by_cases h_2 : (l - (t.length : Int)) < 0
  · skip
    refine JC.condT (congrArg Value.bool (decide_eq_true h_2)) ?_
    refine JC.seq ?_
    refine JC.region ?_
    refine JL.pure rfl (PO.assign (v := .int .i64 (-1)) rfl) ?_
    refine JL.nil ?_
    refine JQ.seq ?_
    refine JC.ret ?_
    refine JQ.thenRet ?_
    refine Done.one (.inl rfl) rfl (RV.tmp (v := .int .i64 (-1)) rfl) (List.nil_sublist _) ?_
    refine ⟨congrArg (Value.int .i64) ?_, rfl⟩
    simp only [szJournalF, chk, id_eq]
    (repeat (first | rw [if_pos (by omega)] | rw [if_neg (by omega)]))
  · skip
    refine JC.condF (congrArg Value.bool (decide_eq_false h_2)) ?_
    refine JC.skip ?_
    refine JQ.seq ?_
    refine JC.seq ?_
    refine JC.region ?_
    refine JL.pure rfl (PO.move (v := .int .i64 (l - (t.length : Int))) rfl) ?_
    refine JL.pure rfl (PO.assign (v := .int .i64 (l - (t.length : Int))) rfl) ?_
    refine JL.nil ?_
    refine JQ.seq ?_
    refine JC.ret ?_
    refine Done.one (.inl rfl) rfl (RV.tmp (v := .int .i64 (l - (t.length : Int))) rfl) (List.nil_sublist _) ?_
    refine ⟨congrArg (Value.int .i64) ?_, rfl⟩
    simp only [szJournalF, chk, id_eq]
    (repeat (first | rw [if_pos (by omega)] | rw [if_neg (by omega)]))

theorem C_toJournal (t : Str) (s : Int) :
    Ct Tryz.prog 61 [.agg #[str t, .int .i64 s]] [] (fun _ => True) (fun v A' => v = .agg #[str t, .int .i64 s] ∧ A' = []) := by
  refine Ct.intro Tryz.func61 rfl Tryz.ntmps61 (Nat.le_of_ble_eq_true rfl) fun w0 hpre => ?_
  refine JC.seq ?_
  refine JC.region ?_
  refine JL.op rfl (JO.box (cs := [str t, .int .i64 s]) rfl rfl) ?_
  rintro _ _ ⟨b_1, rfl, rfl⟩
  refine JL.op rfl (JO.alloc (z := .agg #[str [], .int .i64 0]) (cs := [str [], .int .i64 0]) Tryz.zeroValue29 rfl) ?_
  rintro _ _ ⟨b_2, rfl, rfl⟩
  refine JL.nil ?_
  refine JQ.seq ?_
  refine JC.seq ?_
  refine JC.region ?_
  refine JL.op rfl (JO.alloc (z := .agg #[str [], .int .i64 0]) (cs := [str [], .int .i64 0]) Tryz.zeroValue29 rfl) ?_
  rintro _ _ ⟨b_3, rfl, rfl⟩
  refine JL.nil ?_
  refine JQ.seq ?_
  refine JC.seq ?_
  refine JC.region ?_
  refine JL.pure rfl (PO.fieldAddr fo24_0 rfl) ?_
  refine JL.ld rfl (LO.load1 2 (v := str t) rfl rfl Tryz.isAgg9 rfl) ?_
  refine JL.pure rfl (PO.fieldAddr fo29_0 rfl) ?_
  refine JL.op rfl (JO.store 0 (vs := [str t]) (cs' := [str t, .int .i64 0]) rfl rfl rfl rfl Tryz.sizeOf9 rfl rfl (Nat.le_of_ble_eq_true rfl) rfl) ?_
  rintro _ _ rfl
  refine JL.nil ?_
  refine JQ.seq ?_
  refine JC.seq ?_
  refine JC.region ?_
  refine JL.pure rfl (PO.fieldAddr fo24_1 rfl) ?_
  refine JL.ld rfl (LO.load1 2 (v := .int .i64 s) rfl rfl Tryz.isAgg3 rfl) ?_
  refine JL.pure rfl (PO.fieldAddr fo29_1 rfl) ?_
  refine JL.op rfl (JO.store 0 (vs := [.int .i64 s]) (cs' := [str t, .int .i64 s]) rfl rfl rfl rfl Tryz.sizeOf3 rfl rfl (Nat.le_of_ble_eq_true rfl) rfl) ?_
  rintro _ _ rfl
  refine JL.nil ?_
  refine JQ.seq ?_
  refine JC.seq ?_
  refine JC.region ?_
  refine JL.ld rfl (LO.loadK 0 (vs := [str t, .int .i64 s]) rfl rfl Tryz.isAgg29 Tryz.sizeOf29 rfl rfl) ?_
  refine JL.op rfl (JO.store 1 (vs := [str t, .int .i64 s]) (cs' := [str t, .int .i64 s]) rfl rfl rfl rfl Tryz.sizeOf29 rfl rfl (Nat.le_of_ble_eq_true rfl) rfl) ?_
  rintro _ _ rfl
  refine JL.nil ?_
  refine JQ.seq ?_
  refine JC.ret ?_
  refine Done.one (.inl rfl) rfl (RV.cell1 (LO.loadK 1 (vs := [str t, .int .i64 s]) rfl rfl Tryz.isAgg29 Tryz.sizeOf29 rfl rfl) ⟨_, rfl⟩) (List.nil_sublist _) ?_
  exact ⟨rfl, rfl⟩

theorem C_eqJournal (t : Str) (s : Int) (u : Str) (r : Int) :
    Ct Tryz.prog 66 [.agg #[str t, .int .i64 s], .agg #[str u, .int .i64 r]] [] (fun _ => True) (fun v A' => v = .bool (decide (t = u ∧ s = r)) ∧ A' = []) := by
  refine Ct.intro Tryz.func66 rfl Tryz.ntmps66 (Nat.le_of_ble_eq_true rfl) fun w0 hpre => ?_
  refine JC.seq ?_
  refine JC.region ?_
  refine JL.op rfl (JO.box (cs := [str t, .int .i64 s]) rfl rfl) ?_
  rintro _ _ ⟨b_1, rfl, rfl⟩
  refine JL.op rfl (JO.box (cs := [str u, .int .i64 r]) rfl rfl) ?_
  rintro _ _ ⟨b_2, rfl, rfl⟩
  refine JL.pure rfl (PO.assign (v := .bool false) rfl) ?_
  refine JL.nil ?_
  refine JQ.seq ?_
  refine JC.seq ?_
  refine JC.seq ?_
  refine JC.region ?_
  refine JL.pure rfl (PO.fieldAddr fo29_0 rfl) ?_
  refine JL.ld rfl (LO.load1 1 (v := str t) rfl rfl Tryz.isAgg9 rfl) ?_
  refine JL.pure rfl (PO.fieldAddr fo29_0 rfl) ?_
  refine JL.ld rfl (LO.load1 0 (v := str u) rfl rfl Tryz.isAgg9 rfl) ?_
  refine JL.pure rfl (PO.neqS rfl rfl) ?_
  refine JL.nil ?_
  refine JQ.seq ?_
  by_cases h_3 : t = u
  · skip
    refine JC.condF (congrArg Value.bool (congrArg Bool.not (decide_eq_true h_3))) ?_
    refine JC.skip ?_
    refine JQ.seq ?_
    refine JC.seq ?_
    refine JC.seq ?_
    refine JC.region ?_
    refine JL.pure rfl (PO.fieldAddr fo29_1 rfl) ?_
    refine JL.ld rfl (LO.load1 1 (v := .int .i64 s) rfl rfl Tryz.isAgg3 rfl) ?_
    refine JL.pure rfl (PO.fieldAddr fo29_1 rfl) ?_
    refine JL.ld rfl (LO.load1 0 (v := .int .i64 r) rfl rfl Tryz.isAgg3 rfl) ?_
    refine JL.pure rfl (PO.neqI rfl rfl) ?_
    refine JL.nil ?_
    refine JQ.seq ?_
    by_cases h_4 : s = r
    · skip
      refine JC.condF (congrArg Value.bool (congrArg Bool.not (decide_eq_true h_4))) ?_
      refine JC.skip ?_
      refine JQ.seq ?_
      refine JC.seq ?_
      refine JC.region ?_
      refine JL.pure rfl (PO.assign (v := .bool true) rfl) ?_
      refine JL.nil ?_
      refine JQ.seq ?_
      refine JC.ret ?_
      refine Done.one (.inl rfl) rfl (RV.tmp (v := .bool true) rfl) (List.nil_sublist _) ?_
      exact ⟨congrArg Value.bool (decide_eq_true ⟨by assumption, by assumption⟩).symm, rfl⟩
    · skip
      refine JC.condT (congrArg Value.bool (congrArg Bool.not (decide_eq_false h_4))) ?_
      refine JC.seq ?_
      refine JC.region ?_
      refine JL.pure rfl (PO.assign (v := .bool false) rfl) ?_
      refine JL.nil ?_
      refine JQ.seq ?_
      refine JC.ret ?_
      refine JQ.thenRet ?_
      refine Done.one (.inl rfl) rfl (RV.tmp (v := .bool false) rfl) (List.nil_sublist _) ?_
      exact ⟨congrArg Value.bool (decide_eq_false (fun h_ => by obtain ⟨h_0, h_1⟩ := h_; contradiction)).symm, rfl⟩
  · skip
    refine JC.condT (congrArg Value.bool (congrArg Bool.not (decide_eq_false h_3))) ?_
    refine JC.seq ?_
    refine JC.region ?_
    refine JL.pure rfl (PO.assign (v := .bool false) rfl) ?_
    refine JL.nil ?_
    refine JQ.seq ?_
    refine JC.ret ?_
    refine JQ.thenRet ?_
    refine Done.one (.inl rfl) rfl (RV.tmp (v := .bool false) rfl) (List.nil_sublist _) ?_
    exact ⟨congrArg Value.bool (decide_eq_false (fun h_ => by obtain ⟨h_0, h_1⟩ := h_; contradiction)).symm, rfl⟩

theorem C_szDisk (d : DX) (l : Int) (h0 : 0 ≤ l) (h1 : l ≤ 1048576) (hz : d.dat.okz) :
    Ct Tryz.prog 11 [.agg #[.slice d.a d.l.length d.c, str d.jt, .int .i64 d.js], .int .i64 l] [] (fun w => SeesAE w (rdsD d)) (fun r A' => r = .int .i64 (szDiskF d.dat l) ∧ A' = []) := by
  refine Ct.intro Tryz.func11 rfl Tryz.ntmps11 (Nat.le_of_ble_eq_true rfl) fun w0 hpre => ?_
  have hs_1 : SeesE w0 (.slice d.a d.l.length d.c) 3 d.l.length (d.l.flatMap encO) := (hpre).head
  have hi_2 : SeesAE w0 (d.l.flatMap rdsO) := (hpre).tail
  have hz0 : d.l.length ≤ 9223372036854775807 := by have := hz.k0; simpa only [DX.dat, List.length_map] using this
  have hz1 : ∀ j, j < d.l.length → (d.l.getD j o0).t.okz := fun j hj => hz.k1 _ (List.mem_map_of_mem (getD_mem hj))
  refine JC.seq ?_
  refine JC.region ?_
  refine JL.op rfl (JO.box (cs := [.slice d.a d.l.length d.c, str d.jt, .int .i64 d.js]) rfl rfl) ?_
  rintro _ _ ⟨b_3, rfl, rfl⟩
  refine JL.pure rfl (PO.assign (v := .int .i64 0) rfl) ?_
  refine JL.nil ?_
  refine JQ.seq ?_
  refine JC.seq ?_
  refine JC.region ?_
  refine JL.pure rfl (PO.fieldAddr fo26_0 rfl) ?_
  refine JL.ld rfl (LO.load1 0 (v := .slice d.a d.l.length d.c) rfl rfl Tryz.isAgg22 rfl) ?_
  refine JL.pure rfl (PO.move (v := .int .i64 l) rfl) ?_
  refine JL.op rfl (JO.call [] Tryz.call54 rfl (C_szSlotS d.a d.c d.l l (by omega) (by omega) hz0 hz1) rfl (fun w hw => SeesAE.cons (hw.seeOutE hs_1 (fun _ _ => List.not_mem_nil)) (hw.seeOutAE hi_2 nMA))) ?_
  rintro _ _ ⟨_, ⟨rfl, rfl⟩, rfl⟩
  have hle_4 := szLS_le szSlotF_le (d.l.map OX.t) l (by omega)
  refine JL.pure rfl (PO.assign (v := .int .i64 (szLS szSlotF (d.l.map OX.t) l)) rfl) ?_
  refine JL.nil ?_
  refine JQ.seq ?_
  refine JC.seq ?_
  refine JC.seq ?_
  refine JC.region ?_
  refine JL.pure rfl (PO.move (v := .int .i64 (szLS szSlotF (d.l.map OX.t) l)) rfl) ?_
  refine JL.pure rfl (PO.lss rfl rfl) ?_
  refine JL.nil ?_
  refine JQ.seq ?_
  by_cases h_5 : (szLS szSlotF (d.l.map OX.t) l) < 0
  · skip
    refine JC.condT (congrArg Value.bool (decide_eq_true h_5)) ?_
    refine JC.seq ?_
    refine JC.region ?_
    refine JL.pure rfl (PO.assign (v := .int .i64 (-1)) rfl) ?_
    refine JL.nil ?_
    refine JQ.seq ?_
    refine JC.ret ?_
    refine JQ.thenRet ?_
    refine Done.one (.inl rfl) rfl (RV.tmp (v := .int .i64 (-1)) rfl) (List.nil_sublist _) ?_
    refine ⟨congrArg (Value.int .i64) ?_, rfl⟩
    show _ = chk (szLS szSlotF (d.l.map OX.t) l) fun l => chk (szJournalF d.jt l) id
    simp only [chk, id_eq]
    (repeat (first | rw [if_pos (by omega)] | rw [if_neg (by omega)]))
  · skip
    refine JC.condF (congrArg Value.bool (decide_eq_false h_5)) ?_
    refine JC.skip ?_
    refine JQ.seq ?_
    refine JC.seq ?_
    refine JC.region ?_
    refine JL.pure rfl (PO.fieldAddr fo26_1 rfl) ?_
    refine JL.ld rfl (LO.loadK 0 (vs := [str d.jt, .int .i64 d.js]) rfl rfl Tryz.isAgg24 Tryz.sizeOf24 rfl rfl) ?_
    refine JL.pure rfl (PO.move (v := .int .i64 (szLS szSlotF (d.l.map OX.t) l)) rfl) ?_
    refine JL.op rfl (JO.call [] Tryz.call55 rfl (C_szJournal d.jt d.js (szLS szSlotF (d.l.map OX.t) l) (by omega) (by omega) hz.k2) rfl (fun _ _ => trivial)) ?_
    rintro _ _ ⟨_, ⟨rfl, rfl⟩, rfl⟩
    have hle_6 := szJournalF_le d.jt (szLS szSlotF (d.l.map OX.t) l) (by omega)
    refine JL.pure rfl (PO.assign (v := .int .i64 (szJournalF d.jt (szLS szSlotF (d.l.map OX.t) l))) rfl) ?_
    refine JL.nil ?_
    refine JQ.seq ?_
    refine JC.seq ?_
    refine JC.seq ?_
    refine JC.region ?_
    refine JL.pure rfl (PO.move (v := .int .i64 (szJournalF d.jt (szLS szSlotF (d.l.map OX.t) l))) rfl) ?_
    refine JL.pure rfl (PO.lss rfl rfl) ?_
    refine JL.nil ?_
    refine JQ.seq ?_
    by_cases h_7 : (szJournalF d.jt (szLS szSlotF (d.l.map OX.t) l)) < 0
    · skip
      refine JC.condT (congrArg Value.bool (decide_eq_true h_7)) ?_
      refine JC.seq ?_
      refine JC.region ?_
      refine JL.pure rfl (PO.assign (v := .int .i64 (-1)) rfl) ?_
      refine JL.nil ?_
      refine JQ.seq ?_
      refine JC.ret ?_
      refine JQ.thenRet ?_
      refine Done.one (.inl rfl) rfl (RV.tmp (v := .int .i64 (-1)) rfl) (List.nil_sublist _) ?_
      refine ⟨congrArg (Value.int .i64) ?_, rfl⟩
      show _ = chk (szLS szSlotF (d.l.map OX.t) l) fun l => chk (szJournalF d.jt l) id
      simp only [chk, id_eq]
      (repeat (first | rw [if_pos (by omega)] | rw [if_neg (by omega)]))
    · skip
      refine JC.condF (congrArg Value.bool (decide_eq_false h_7)) ?_
      refine JC.skip ?_
      refine JQ.seq ?_
      refine JC.seq ?_
      refine JC.region ?_
      refine JL.pure rfl (PO.move (v := .int .i64 (szJournalF d.jt (szLS szSlotF (d.l.map OX.t) l))) rfl) ?_
      refine JL.pure rfl (PO.assign (v := .int .i64 (szJournalF d.jt (szLS szSlotF (d.l.map OX.t) l))) rfl) ?_
      refine JL.nil ?_
      refine JQ.seq ?_
      refine JC.ret ?_
      refine Done.one (.inl rfl) rfl (RV.tmp (v := .int .i64 (szJournalF d.jt (szLS szSlotF (d.l.map OX.t) l))) rfl) (List.nil_sublist _) ?_
      refine ⟨congrArg (Value.int .i64) ?_, rfl⟩
      show _ = chk (szLS szSlotF (d.l.map OX.t) l) fun l => chk (szJournalF d.jt l) id
      simp only [chk, id_eq]
      (repeat (first | rw [if_pos (by omega)] | rw [if_neg (by omega)]))

theorem C_toDisk (d : DX) (hl : d.dat.lim 1048576) :
    Ct Tryz.prog 13 [.agg #[.slice d.a d.l.length d.c, str d.jt, .int .i64 d.js]] [] (fun w => SeesAE w (rdsD d)) (fun v A' => ∃ y : DX, y.dat = d.dat ∧ v = .agg #[.slice y.a y.l.length y.c, str y.jt, .int .i64 y.js] ∧ A' = [.rows (rdsD y)]) := by
  refine Ct.intro Tryz.func13 rfl Tryz.ntmps13 (Nat.le_of_ble_eq_true rfl) fun w0 hpre => ?_
  have hs_1 : SeesE w0 (.slice d.a d.l.length d.c) 3 d.l.length (d.l.flatMap encO) := (hpre).head
  have hi_2 : SeesAE w0 (d.l.flatMap rdsO) := (hpre).tail
  have hlm : d.l.length ≤ 1048576 ∧ ∀ q ∈ d.l, q.t.lim 1048576 := ⟨by have := hl.l0; simpa only [DX.dat, List.length_map] using this, fun q hq => hl.l1 _ (List.mem_map_of_mem hq)⟩
  have hlm0 := hlm.1
  refine JC.seq ?_
  refine JC.region ?_
  refine JL.op rfl (JO.box (cs := [.slice d.a d.l.length d.c, str d.jt, .int .i64 d.js]) rfl rfl) ?_
  rintro _ _ ⟨b_3, rfl, rfl⟩
  refine JL.op rfl (JO.alloc (z := .agg #[.slice none 0 0, str [], .int .i64 0]) (cs := [.slice none 0 0, str [], .int .i64 0]) Tryz.zeroValue31 rfl) ?_
  rintro _ _ ⟨b_4, rfl, rfl⟩
  refine JL.nil ?_
  refine JQ.seq ?_
  refine JC.seq ?_
  refine JC.region ?_
  refine JL.op rfl (JO.alloc (z := .agg #[.slice none 0 0, str [], .int .i64 0]) (cs := [.slice none 0 0, str [], .int .i64 0]) Tryz.zeroValue31 rfl) ?_
  rintro _ _ ⟨b_5, rfl, rfl⟩
  refine JL.nil ?_
  refine JQ.seq ?_
  refine JC.seq ?_
  refine JC.region ?_
  refine JL.pure rfl (PO.fieldAddr fo26_0 rfl) ?_
  refine JL.ld rfl (LO.load1 2 (v := .slice d.a d.l.length d.c) rfl rfl Tryz.isAgg22 rfl) ?_
  refine JL.op rfl (JO.call [] Tryz.call60 rfl (C_toSlotS d.a d.c d.l (by omega) hlm.2) rfl (fun w hw => SeesAE.cons (hw.seeOutE hs_1 (fun _ _ => List.not_mem_nil)) (hw.seeOutAE hi_2 nMA))) ?_
  rintro _ _ ⟨_, ⟨a_6, c_7, y_8, hy_9, rfl, rfl⟩, rfl⟩
  refine JL.pure rfl (PO.fieldAddr fo31_0 rfl) ?_
  refine JL.op rfl (JO.store 1 (vs := [.slice a_6 y_8.length c_7]) (cs' := [.slice a_6 y_8.length c_7, str [], .int .i64 0]) rfl rfl rfl rfl Tryz.sizeOf28 rfl rfl (Nat.le_of_ble_eq_true rfl) rfl) ?_
  rintro _ _ rfl
  refine JL.nil ?_
  refine JQ.seq ?_
  refine JC.seq ?_
  refine JC.region ?_
  refine JL.pure rfl (PO.fieldAddr fo26_1 rfl) ?_
  refine JL.ld rfl (LO.loadK 3 (vs := [str d.jt, .int .i64 d.js]) rfl rfl Tryz.isAgg24 Tryz.sizeOf24 rfl rfl) ?_
  refine JL.op rfl (JO.call [] Tryz.call61 rfl (C_toJournal d.jt d.js) rfl (fun _ _ => trivial)) ?_
  rintro _ _ ⟨_, ⟨rfl, rfl⟩, rfl⟩
  refine JL.pure rfl (PO.fieldAddr fo31_1 rfl) ?_
  refine JL.op rfl (JO.store 1 (vs := [str d.jt, .int .i64 d.js]) (cs' := [.slice a_6 y_8.length c_7, str d.jt, .int .i64 d.js]) rfl rfl rfl rfl Tryz.sizeOf29 rfl rfl (Nat.le_of_ble_eq_true rfl) rfl) ?_
  rintro _ _ rfl
  refine JL.nil ?_
  refine JQ.seq ?_
  refine JC.seq ?_
  refine JC.region ?_
  refine JL.ld rfl (LO.loadK 1 (vs := [.slice a_6 y_8.length c_7, str d.jt, .int .i64 d.js]) rfl rfl Tryz.isAgg31 Tryz.sizeOf31 rfl rfl) ?_
  refine JL.op rfl (JO.store 2 (vs := [.slice a_6 y_8.length c_7, str d.jt, .int .i64 d.js]) (cs' := [.slice a_6 y_8.length c_7, str d.jt, .int .i64 d.js]) rfl rfl rfl rfl Tryz.sizeOf31 rfl rfl (Nat.le_of_ble_eq_true rfl) rfl) ?_
  rintro _ _ rfl
  refine JL.nil ?_
  refine JQ.seq ?_
  refine JC.ret ?_
  refine Done.one (.inl rfl) rfl (RV.cell1 (LO.loadK 2 (vs := [.slice a_6 y_8.length c_7, str d.jt, .int .i64 d.js]) rfl rfl Tryz.isAgg31 Tryz.sizeOf31 rfl rfl) ⟨_, rfl⟩) (List.sublist_append_left [Res.rows (rdsOS a_6 c_7 y_8)] [bk b_5 31 [.slice a_6 y_8.length c_7, str d.jt, .int .i64 d.js], bk b_4 31 [.slice a_6 y_8.length c_7, str d.jt, .int .i64 d.js], bk b_3 26 [.slice d.a d.l.length d.c, str d.jt, .int .i64 d.js]]) ?_
  exact ⟨⟨a_6, c_7, y_8, d.jt, d.js⟩, by simp only [DX.dat, hy_9], rfl, rfl⟩

theorem C_eqDisk (d e : DX) (hl : d.dat.lim 1000000000) :
    Ct Tryz.prog 15 [.agg #[.slice d.a d.l.length d.c, str d.jt, .int .i64 d.js], .agg #[.slice e.a e.l.length e.c, str e.jt, .int .i64 e.js]] [] (fun w => SeesA w (rdsD d) ∧ SeesA w (rdsD e)) (fun v A' => v = .bool (decide (d.dat = e.dat)) ∧ A' = []) := by
  refine Ct.intro Tryz.func15 rfl Tryz.ntmps15 (Nat.le_of_ble_eq_true rfl) fun w0 hpre => ?_
  have hs_1 : Sees w0 (.slice d.a d.l.length d.c) 3 d.l.length (d.l.flatMap encO) := (hpre.1).head
  have hi_2 : SeesA w0 (d.l.flatMap rdsO) := (hpre.1).tail
  have hs_3 : Sees w0 (.slice e.a e.l.length e.c) 3 e.l.length (e.l.flatMap encO) := (hpre.2).head
  have hi_4 : SeesA w0 (e.l.flatMap rdsO) := (hpre.2).tail
  have hlm : d.l.length ≤ 1000000000 ∧ ∀ q ∈ d.l, q.t.lim 1000000000 := ⟨by have := hl.l0; simpa only [DX.dat, List.length_map] using this, fun q hq => hl.l1 _ (List.mem_map_of_mem hq)⟩
  have hlm0 := hlm.1
  refine JC.seq ?_
  refine JC.region ?_
  refine JL.op rfl (JO.box (cs := [.slice d.a d.l.length d.c, str d.jt, .int .i64 d.js]) rfl rfl) ?_
  rintro _ _ ⟨b_5, rfl, rfl⟩
  refine JL.op rfl (JO.box (cs := [.slice e.a e.l.length e.c, str e.jt, .int .i64 e.js]) rfl rfl) ?_
  rintro _ _ ⟨b_6, rfl, rfl⟩
  refine JL.pure rfl (PO.assign (v := .bool false) rfl) ?_
  refine JL.nil ?_
  refine JQ.seq ?_
  refine JC.seq ?_
  refine JC.seq ?_
  refine JC.region ?_
  refine JL.pure rfl (PO.fieldAddr fo31_0 rfl) ?_
  refine JL.ld rfl (LO.load1 1 (v := .slice d.a d.l.length d.c) rfl rfl Tryz.isAgg28 rfl) ?_
  refine JL.pure rfl (PO.fieldAddr fo31_0 rfl) ?_
  refine JL.ld rfl (LO.load1 0 (v := .slice e.a e.l.length e.c) rfl rfl Tryz.isAgg28 rfl) ?_
  refine JL.op rfl (JO.call [] Tryz.call65 rfl (C_eqSlotS d.a e.a d.c e.c d.l e.l (by omega) hlm.2) rfl (fun w hw => ⟨SeesA.cons (hw.seeOut_ hs_1 (fun _ _ => List.not_mem_nil)) (hw.seeOutA hi_2 nMA), SeesA.cons (hw.seeOut_ hs_3 (fun _ _ => List.not_mem_nil)) (hw.seeOutA hi_4 nMA)⟩)) ?_
  rintro _ _ ⟨_, ⟨rfl, rfl⟩, rfl⟩
  refine JL.pure rfl (PO.not rfl) ?_
  refine JL.nil ?_
  refine JQ.seq ?_
  by_cases h_7 : d.l.map OX.t = e.l.map OX.t
  · skip
    refine JC.condF (congrArg Value.bool (congrArg Bool.not (decide_eq_true h_7))) ?_
    refine JC.skip ?_
    refine JQ.seq ?_
    refine JC.seq ?_
    refine JC.seq ?_
    refine JC.region ?_
    refine JL.pure rfl (PO.fieldAddr fo31_1 rfl) ?_
    refine JL.ld rfl (LO.loadK 1 (vs := [str d.jt, .int .i64 d.js]) rfl rfl Tryz.isAgg29 Tryz.sizeOf29 rfl rfl) ?_
    refine JL.pure rfl (PO.fieldAddr fo31_1 rfl) ?_
    refine JL.ld rfl (LO.loadK 0 (vs := [str e.jt, .int .i64 e.js]) rfl rfl Tryz.isAgg29 Tryz.sizeOf29 rfl rfl) ?_
    refine JL.op rfl (JO.call [] Tryz.call66 rfl (C_eqJournal d.jt d.js e.jt e.js) rfl (fun _ _ => trivial)) ?_
    rintro _ _ ⟨_, ⟨rfl, rfl⟩, rfl⟩
    refine JL.pure rfl (PO.not rfl) ?_
    refine JL.nil ?_
    refine JQ.seq ?_
    by_cases h_8 : d.jt = e.jt ∧ d.js = e.js
    · skip
      obtain ⟨ht_9, ht_10⟩ := id h_8
      refine JC.condF (congrArg Value.bool (congrArg Bool.not (decide_eq_true h_8))) ?_
      refine JC.skip ?_
      refine JQ.seq ?_
      refine JC.seq ?_
      refine JC.region ?_
      refine JL.pure rfl (PO.assign (v := .bool true) rfl) ?_
      refine JL.nil ?_
      refine JQ.seq ?_
      refine JC.ret ?_
      refine Done.one (.inl rfl) rfl (RV.tmp (v := .bool true) rfl) (List.nil_sublist _) ?_
      exact ⟨congrArg Value.bool (decide_eq_true (DD.same.2 ⟨by assumption, by assumption, by assumption⟩)).symm, rfl⟩
    · skip
      refine JC.condT (congrArg Value.bool (congrArg Bool.not (decide_eq_false h_8))) ?_
      refine JC.seq ?_
      refine JC.region ?_
      refine JL.pure rfl (PO.assign (v := .bool false) rfl) ?_
      refine JL.nil ?_
      refine JQ.seq ?_
      refine JC.ret ?_
      refine JQ.thenRet ?_
      refine Done.one (.inl rfl) rfl (RV.tmp (v := .bool false) rfl) (List.nil_sublist _) ?_
      exact ⟨congrArg Value.bool (decide_eq_false (fun h_ => by obtain ⟨h_0, h_1, h_2⟩ := DD.same.1 h_; first | exact absurd (show d.l.map OX.t = e.l.map OX.t from h_0) (by assumption) | exact absurd (show d.jt = e.jt ∧ d.js = e.js from ⟨h_1, h_2⟩) (by assumption))).symm, rfl⟩
  · skip
    refine JC.condT (congrArg Value.bool (congrArg Bool.not (decide_eq_false h_7))) ?_
    refine JC.seq ?_
    refine JC.region ?_
    refine JL.pure rfl (PO.assign (v := .bool false) rfl) ?_
    refine JL.nil ?_
    refine JQ.seq ?_
    refine JC.ret ?_
    refine JQ.thenRet ?_
    refine Done.one (.inl rfl) rfl (RV.tmp (v := .bool false) rfl) (List.nil_sublist _) ?_
    exact ⟨congrArg Value.bool (decide_eq_false (fun h_ => by obtain ⟨h_0, h_1, h_2⟩ := DD.same.1 h_; first | exact absurd (show d.l.map OX.t = e.l.map OX.t from h_0) (by assumption) | exact absurd (show d.jt = e.jt ∧ d.js = e.js from ⟨h_1, h_2⟩) (by assumption))).symm, rfl⟩

theorem C_markDisk (d : DX) (k : Nat) (h0 : 0 < k) (h1 : k + cntV cntO d.l ≤ 100000000) (hn : d.l.length ≤ 1000000000) :
    Ct Tryz.prog 16 [.agg #[.slice d.a d.l.length d.c, str d.jt, .int .i64 d.js], .int .i64 ((k : Nat) : Int)] [Res.rows (rdsD d)] (fun _ => True) (fun v A' => v = .int .i64 ((k + cntV cntO d.l : Nat) : Int) ∧ A' = [.rows (rdsOS d.a d.c (markV mkO cntO d.l k))]) := by
  refine Ct.intro Tryz.func16 rfl Tryz.ntmps16 (Nat.le_of_ble_eq_true rfl) fun w0 hpre => ?_
  refine JC.ghost (L' := [Res.rows (rdsOS d.a d.c d.l)]) (fun w hw => hw.eqL rfl) ?_
  refine JC.seq ?_
  refine JC.region ?_
  refine JL.op rfl (JO.box (cs := [.slice d.a d.l.length d.c, str d.jt, .int .i64 d.js]) rfl rfl) ?_
  rintro _ _ ⟨b_1, rfl, rfl⟩
  refine JL.pure rfl (PO.assign (v := .int .i64 0) rfl) ?_
  refine JL.nil ?_
  refine JQ.seq ?_
  refine JC.seq ?_
  refine JC.region ?_
  refine JL.pure rfl (PO.fieldAddr fo31_0 rfl) ?_
  refine JL.ld rfl (LO.load1 0 (v := .slice d.a d.l.length d.c) rfl rfl Tryz.isAgg28 rfl) ?_
  refine JL.pure rfl (PO.move (v := .int .i64 ((k : Nat) : Int)) rfl) ?_
  refine JL.op rfl (JO.call [1] Tryz.call67 rfl (C_markSlotS d.a d.c d.l k (by omega) (by omega) (by omega)) rfl (fun _ _ => trivial)) ?_
  rintro _ _ ⟨_, ⟨rfl, rfl⟩, rfl⟩
  refine JL.pure rfl (PO.assign (v := .int .i64 ((k + cntV cntO d.l : Nat) : Int)) rfl) ?_
  refine JL.nil ?_
  refine JQ.seq ?_
  refine JC.seq ?_
  refine JC.region ?_
  refine JL.pure rfl (PO.move (v := .int .i64 ((k + cntV cntO d.l : Nat) : Int)) rfl) ?_
  refine JL.pure rfl (PO.assign (v := .int .i64 ((k + cntV cntO d.l : Nat) : Int)) rfl) ?_
  refine JL.nil ?_
  refine JQ.seq ?_
  refine JC.ret ?_
  refine Done.one (.inl rfl) rfl (RV.tmp (v := .int .i64 ((k + cntV cntO d.l : Nat) : Int)) rfl) (List.sublist_append_left [Res.rows (rdsOS d.a d.c (markV mkO cntO d.l k))] [bk b_1 31 [.slice d.a d.l.length d.c, str d.jt, .int .i64 d.js]]) ?_
  exact ⟨rfl, rfl⟩

theorem C_heldDisk (d : DX) (k : Nat) (h0 : 0 < k) (h1 : k + cntV cntO d.l ≤ 100000000) (hn : d.l.length ≤ 1000000000) :
    Ct Tryz.prog 17 [.agg #[.slice d.a d.l.length d.c, str d.jt, .int .i64 d.js], .int .i64 ((k : Nat) : Int)] [] (fun w => SeesA w (rdsOS d.a d.c (markV mkO cntO d.l k))) (fun v A' => v = .int .i64 ((k + cntV cntO d.l : Nat) : Int) ∧ A' = []) := by
  refine Ct.intro Tryz.func17 rfl Tryz.ntmps17 (Nat.le_of_ble_eq_true rfl) fun w0 hpre => ?_
  refine JC.seq ?_
  refine JC.region ?_
  refine JL.op rfl (JO.box (cs := [.slice d.a d.l.length d.c, str d.jt, .int .i64 d.js]) rfl rfl) ?_
  rintro _ _ ⟨b_1, rfl, rfl⟩
  refine JL.pure rfl (PO.assign (v := .int .i64 0) rfl) ?_
  refine JL.nil ?_
  refine JQ.seq ?_
  refine JC.seq ?_
  refine JC.region ?_
  refine JL.pure rfl (PO.fieldAddr fo31_0 rfl) ?_
  refine JL.ld rfl (LO.load1 0 (v := .slice d.a d.l.length d.c) rfl rfl Tryz.isAgg28 rfl) ?_
  refine JL.pure rfl (PO.move (v := .int .i64 ((k : Nat) : Int)) rfl) ?_
  refine JL.op rfl (JO.call [] Tryz.call68 rfl (C_heldSlotS d.a d.c d.l k (by omega) (by omega) (by omega)) rfl (fun w hw => hw.seeOutA hpre nMA)) ?_
  rintro _ _ ⟨_, ⟨rfl, rfl⟩, rfl⟩
  refine JL.pure rfl (PO.assign (v := .int .i64 ((k + cntV cntO d.l : Nat) : Int)) rfl) ?_
  refine JL.nil ?_
  refine JQ.seq ?_
  refine JC.seq ?_
  refine JC.seq ?_
  refine JC.region ?_
  refine JL.pure rfl (PO.move (v := .int .i64 ((k + cntV cntO d.l : Nat) : Int)) rfl) ?_
  refine JL.pure rfl (PO.lss rfl rfl) ?_
  refine JL.nil ?_
  refine JQ.seq ?_
  by_cases h_2 : ((k + cntV cntO d.l : Nat) : Int) < 0
  · skip
    refine JC.condT (congrArg Value.bool (decide_eq_true h_2)) ?_
    refine JC.seq ?_
    refine JC.region ?_
    refine JL.pure rfl (PO.assign (v := .int .i64 (-1)) rfl) ?_
    refine JL.nil ?_
    refine JQ.seq ?_
    refine JC.ret ?_
    refine JQ.thenRet ?_
    refine Done.one (.inl rfl) rfl (RV.tmp (v := .int .i64 (-1)) rfl) (List.nil_sublist _) ?_
    exfalso
    omega
  · skip
    refine JC.condF (congrArg Value.bool (decide_eq_false h_2)) ?_
    refine JC.skip ?_
    refine JQ.seq ?_
    refine JC.seq ?_
    refine JC.region ?_
    refine JL.pure rfl (PO.move (v := .int .i64 ((k + cntV cntO d.l : Nat) : Int)) rfl) ?_
    refine JL.pure rfl (PO.assign (v := .int .i64 ((k + cntV cntO d.l : Nat) : Int)) rfl) ?_
    refine JL.nil ?_
    refine JQ.seq ?_
    refine JC.ret ?_
    refine Done.one (.inl rfl) rfl (RV.tmp (v := .int .i64 ((k + cntV cntO d.l : Nat) : Int)) rfl) (List.nil_sublist _) ?_
    exact ⟨rfl, rfl⟩

end Go.Proofs.YtjncpgcccgdeiaaGreatDoor
