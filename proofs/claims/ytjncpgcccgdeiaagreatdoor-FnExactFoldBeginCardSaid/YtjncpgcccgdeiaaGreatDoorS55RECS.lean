/-
  Texts of the walk, joined: what each one proves stands at its theorems.
-/
import Derived.Test.YtjncpgcccgdeiaaGreatDoorS52SPLIT
import Derived.Test.YtjncpgcccgdeiaaGreatDoorSlStr
import Derived.Test.YtjncpgcccgdeiaaGreatDoorDatM
import Derived.Test.YtjncpgcccgdeiaaGreatDoorDatA
import Derived.RangeFuncRecord
import Derived.TacticsIn
set_option linter.unusedSimpArgs false
set_option linter.unusedVariables false
set_option linter.unnecessarySimpa false
namespace Go.Proofs.YtjncpgcccgdeiaaGreatDoor
open Go Go.RowKit
attribute [local irreducible] JL JC JQ JO LO PO JA JX Ct

set_option maxRecDepth 4000 in
set_option maxHeartbeats 1000000 in
theorem Y_bstr (b g cap : Nat) (u : Option Addr) (a : Option Addr) (cur : Array Value) (fz : Nat × Nat) (ha : a = some ⟨g, 0, none⟩) (l : Str) (hl0 : l ≠ []) (hcap : l.length ≤ cap) (hm : cap ≤ maxLen) (hsz : cap ≤ cur.size) (hcur : cur.toList.take l.length = l.map encB) :
    Ct Tryz.prog 81 [.pointer (some ⟨b, 0, none⟩)] [bk b 93 [.pointer u, .slice a l.length cap], .blk g (.cells cur TB fz)] (fun _ => True) (fun v A' => ∃ fz', v = str l ∧ A' = [bk b 93 [.pointer u, .slice a l.length cap], .blk g (.cells cur TB fz')]) := by
  have hm63 : cap ≤ 9223372036854775807 := by unfold maxLen at hm; omega
  have hlp : 0 < l.length := List.length_pos_iff.2 hl0
  refine Ct.intro Tryz.func81 rfl Tryz.ntmps81 (Nat.le_of_ble_eq_true rfl) fun w0 hpre => ?_
  refine JC.seq ?_
  refine JC.region ?_
  refine JL.pure rfl (PO.assign (v := str []) rfl) ?_
  refine JL.nil ?_
  refine JQ.seq ?_
  refine JC.seq ?_
  refine JC.regionA [bk b 93 [.pointer u, .slice a l.length cap]] 11 mixed (by simp) ?_
  refine JA.takeP 0 rfl (by kernel_rfl) (NP.th NP.body) (by kernel_rfl) (by kernel_rfl) rfl (PO.move (v := .pointer (some ⟨b, 0, none⟩)) rfl) ?_
  refine JA.takeP 1 rfl (by kernel_rfl) (NP.th NP.body) (by kernel_rfl) (by kernel_rfl) rfl (PO.nilCheck rfl) ?_
  refine JA.takeP 2 rfl (by kernel_rfl) (NP.th NP.body) (by kernel_rfl) (by kernel_rfl) rfl (PO.fieldAddr fo93_1 rfl) ?_
  refine JA.take 3 rfl (by kernel_rfl) (NP.th NP.body) (by kernel_rfl) (by kernel_rfl) (by kernel_rfl) rfl (LO.load1 0 (v := .slice a l.length cap) rfl rfl Tryz.isAgg39 rfl) ?_
  refine JA.takeP 4 rfl (by kernel_rfl) (NP.th NP.body) (by kernel_rfl) (by kernel_rfl) rfl (PO.unsafeData ha rfl (by omega)) ?_
  refine JA.takeP 5 rfl (by kernel_rfl) (NP.th NP.body) (by kernel_rfl) (by kernel_rfl) rfl (PO.move (v := .pointer (some ⟨b, 0, none⟩)) rfl) ?_
  refine JA.takeP 6 rfl (by kernel_rfl) (NP.th NP.body) (by kernel_rfl) (by kernel_rfl) rfl (PO.nilCheck rfl) ?_
  refine JA.takeP 7 rfl (by kernel_rfl) (NP.th NP.body) (by kernel_rfl) (by kernel_rfl) rfl (PO.fieldAddr fo93_1 rfl) ?_
  refine JA.take 8 rfl (by kernel_rfl) (NP.th NP.body) (by kernel_rfl) (by kernel_rfl) (by kernel_rfl) rfl (LO.load1 0 (v := .slice a l.length cap) rfl rfl Tryz.isAgg39 rfl) ?_
  refine JA.takeP 9 rfl (by kernel_rfl) (NP.th NP.body) (by kernel_rfl) (by kernel_rfl) rfl (PO.lenV Tryz.underlying39 rfl) ?_
  refine JA.one (i := 10) (by kernel_rfl) ?_
  refine JX.op rfl rfl (JO.unsafeStr 1 (l := l) rfl Tryz.underlying135 rfl rfl rfl hl0 (by omega) (by omega) hcur) ?_
  rintro _ _ ⟨fz_2, rfl, rfl⟩
  refine ⟨by simp, ?_⟩
  refine JA.takeP 11 rfl (by kernel_rfl) (NP.th NP.body) (by kernel_rfl) (by kernel_rfl) rfl (PO.assign (v := str l) rfl) ?_
  refine JA.done (by kernel_rfl) ?_
  refine JQ.seq ?_
  refine JC.ret ?_
  refine Done.one (.inl rfl) rfl (RV.tmp (v := str l) rfl) (List.Sublist.refl _) ?_
  exact ⟨_, rfl, rfl⟩

theorem Y_iHex (s : Str) (hs : s.length ≤ 20000) : Ct Tryz.prog 80 [str s] [] (fun _ => True) (fun v A' => v = str (hexB s) ∧ A' = []) :=
  (N_hexOf s (by omega)).weak (fun _ h => h) fun v A' ⟨u, e, _, hv, hA⟩ => ⟨by rw [hv, ← e, hexS, if_neg (by omega)], hA⟩

set_option maxRecDepth 4000 in
set_option maxHeartbeats 1000000 in
theorem Y_iRec (seq : Int) (a : Option Addr) (c : Nat) (l : List Cell) (hl : okC l) :
    Ct Tryz.prog 28 [.int .i64 seq, .slice a l.length c] [] (fun w => Sees w (.slice a l.length c) 2 l.length (l.flatMap encC)) (fun v A' => v = str (recText seq l) ∧ A' = []) := by
  refine Ct.intro Tryz.func28 rfl Tryz.ntmps28 (Nat.le_of_ble_eq_true rfl) fun w0 hpre => ?_
  have hs_a : Sees w0 _ _ _ _ := hpre
  have hll := hl.1
  refine JC.seq ?_
  refine JC.region ?_
  refine JL.pure rfl (PO.assign (v := str []) rfl) ?_
  refine JL.nil ?_
  refine JQ.seq ?_
  refine JC.seq ?_
  refine JC.seq ?_
  refine JC.region ?_
  refine JL.pure rfl (PO.move (v := .int .i64 seq) rfl) ?_
  refine JL.op rfl (JO.call [] Tryz.call76 rfl (Y_within seq 1 100000) rfl (fun _ _ => trivial)) ?_
  rintro _ _ ⟨_, ⟨rfl, rfl⟩, rfl⟩
  refine JL.pure rfl (PO.not rfl) ?_
  refine JL.nil ?_
  refine JQ.seq ?_
  rcases Bool.eq_false_or_eq_true (within 1 seq 100000) with h_1 | h_1
  · skip
    refine JC.condF (congrArg Value.bool (congrArg Bool.not h_1)) ?_
    refine JC.skip ?_
    refine JQ.seq ?_
    refine JC.seq ?_
    refine JC.region ?_
    refine JL.op rfl (JO.alloc (z := .agg #[.pointer none, .slice none 0 0]) (cs := [.pointer none, .slice none 0 0]) Tryz.zeroValue93 rfl) ?_
    rintro _ _ ⟨b_2, rfl, rfl⟩
    refine JL.nil ?_
    refine JQ.seq ?_
    refine JC.seq ?_
    have hwi := (show 1 ≤ seq ∧ seq ≤ 100000 by simpa only [within, Bool.and_eq_true, decide_eq_true_eq] using h_1)
    have hdl := dec_len (n := seq) (by omega) (by omega)
    have hdp := dec_pos seq
    refine JC.region ?_
    refine JL.pure rfl (PO.move (v := .int .i64 seq) rfl) ?_
    refine JL.op rfl (JO.call [] Tryz.call29 rfl (C_decimal seq (by omega) (by omega)) rfl (fun _ _ => trivial)) ?_
    rintro _ _ ⟨_, ⟨rfl, rfl⟩, rfl⟩
    have hdl_3 := dec_len (n := seq) (by omega) (by omega)
    refine JL.nilRow 5 1 ?_
    refine JL.op rfl (JO.call [1, 0] Tryz.call77 rfl (Y_ws0 b_2 none 0 ([] : Str) (dec seq) (by first | omega | ((try simp only [List.length_append, List.length_cons, List.length_nil]); omega)) (by first | omega | ((try simp only [List.length_append, List.length_cons, List.length_nil]); omega))) rfl (fun _ _ => trivial)) ?_
    rintro _ _ ⟨_, ⟨a_4, c_5, rfl, rfl⟩, rfl⟩
    refine JL.nil ?_
    refine JQ.seq ?_
    refine JC.seq ?_
    refine JC.seq ?_
    refine JC.region ?_
    refine JL.pure rfl (PO.move (v := .slice a l.length c) rfl) ?_
    refine JL.pure rfl (PO.lenV Tryz.underlying49 rfl) ?_
    refine JL.pure rfl (PO.move (v := .int .i64 0) rfl) ?_
    refine JL.nil ?_
    refine JQ.seq ?_
    refine JC.block ?_
    refine JC.loop (fun k_ e_ L_ => ∃ j : Nat, ∃ oa : Option Addr, ∃ oc : Nat, ∃ b : Str, (j ≤ l.length) ∧ (0 < b.length ∧ b.length ≤ 5000) ∧ (recGo b (l.drop j) = recGo (dec seq) l) ∧ e_ 5 = .pointer (some ⟨b_2, 0, none⟩) ∧ e_ 15 = .slice a l.length c ∧ e_ 16 = .int .i64 ((l.length : Nat) : Int) ∧ e_ 17 = .int .i64 ((j : Nat) : Int) ∧ L_ = [bk b_2 93 [.pointer (some ⟨b_2, 0, none⟩), .slice oa b.length oc], Res.row (.slice oa b.length oc) 5 1 b.length (b.map encB)] ∧ k_ = l.length - j) _ ⟨0, a_4, c_5, dec seq, by omega, by omega, rfl, rfl, rfl, rfl, rfl, rfl, rfl⟩ ?_
    rintro _ e_6 _ ⟨j, oa, oc, b, hj, hb, hR, he_7, he_8, he_9, he_10, rfl, rfl⟩
    refine JC.seq ?_
    refine JC.region ?_
    refine JL.pure rfl (PO.lss he_10 he_9) ?_
    refine JL.nil ?_
    refine JQ.seq ?_
    refine JC.seq ?_
    by_cases h_11 : ((j : Nat) : Int) < ((l.length : Nat) : Int)
    · skip
      have hlt : j < l.length := by omega
      refine JC.condT (congrArg Value.bool (decide_eq_true h_11)) ?_
      refine JC.skip ?_
      refine JQ.seq ?_
      refine JC.seq ?_
      refine JC.block ?_
      refine JC.seq ?_
      refine JC.region ?_
      obtain ⟨hr_12, hr_12b, -⟩ := sees_some hs_a (by omega)
      refine JL.pure rfl (PO.indexAddrV (i := j) Tryz.underlying49 Tryz.sizeOf48 hr_12 hr_12b he_8 he_10 (by omega)) ?_
      refine JL.ld rfl (LO.loadSK (vs := [str ((l.getD j c0).1), str ((l.getD j c0).2)]) hs_a (fun _ _ => List.not_mem_nil) rfl Tryz.isAgg48 Tryz.sizeOf48 (atC (by omega)) rfl (by decide)) ?_
      refine JL.op rfl (JO.alloc (z := .agg #[str [], str []]) (cs := [str [], str []]) Tryz.zeroValue48 rfl) ?_
      rintro _ _ ⟨b_13, rfl, rfl⟩
      refine JL.op rfl (JO.store 0 (vs := [str ((l.getD j c0).1), str ((l.getD j c0).2)]) (cs' := [str ((l.getD j c0).1), str ((l.getD j c0).2)]) rfl rfl rfl rfl Tryz.sizeOf48 rfl rfl (Nat.le_of_ble_eq_true rfl) rfl) ?_
      rintro _ _ rfl
      refine JL.nil ?_
      refine JQ.seq ?_
      refine JC.seq ?_
      refine JC.seq ?_
      refine JC.region ?_
      refine JL.pure rfl (PO.fieldAddr fo48_0 rfl) ?_
      refine JL.ld rfl (LO.load1 0 (v := str ((l.getD j c0).1)) rfl rfl Tryz.isAgg9 rfl) ?_
      refine JL.op rfl (JO.call [] Tryz.call78 rfl (Y_implKeyOk ((l.getD j c0).1) (hl.2 j hlt).1) rfl (fun _ _ => trivial)) ?_
      rintro _ _ ⟨_, ⟨rfl, rfl⟩, rfl⟩
      refine JL.pure rfl (PO.not rfl) ?_
      refine JL.pure rfl (PO.move (v := .bool (!(keyOk ((l.getD j c0).1)))) rfl) ?_
      rcases Bool.eq_false_or_eq_true (keyOk ((l.getD j c0).1)) with h_14 | h_14
      · skip
        have hk40 := keyOk_len h_14
        refine JL.guardOn rfl rfl rfl (congrArg Value.bool (congrArg Bool.not h_14)) (JO.ofLO (LO.pure (PO.fieldAddr fo48_1 rfl))) ?_
        rintro _ _ ⟨rfl, rfl⟩
        refine JL.guardOn rfl rfl rfl (congrArg Value.bool (congrArg Bool.not h_14)) (JO.ofLO (LO.load1 0 (v := str ((l.getD j c0).2)) rfl rfl Tryz.isAgg9 rfl)) ?_
        rintro _ _ ⟨rfl, rfl⟩
        refine JL.guardOn rfl rfl rfl (congrArg Value.bool (congrArg Bool.not h_14)) (JO.ofLO (LO.pure (PO.lenS Tryz.underlying9 rfl))) ?_
        rintro _ _ ⟨rfl, rfl⟩
        refine JL.guardOn rfl rfl rfl (congrArg Value.bool (congrArg Bool.not h_14)) (JO.ofLO (LO.pure (PO.gtr rfl rfl))) ?_
        rintro _ _ ⟨rfl, rfl⟩
        refine JL.pure rfl (PO.pickF (v := .bool (decide (60 < (((l.getD j c0).2).length : Int)))) (congrArg Value.bool (congrArg Bool.not h_14)) rfl) ?_
        refine JL.pure rfl (PO.move (v := .bool (decide (60 < (((l.getD j c0).2).length : Int)))) rfl) ?_
        by_cases h_15 : 60 < (((l.getD j c0).2).length : Int)
        · skip
          refine JL.guardOff (b := true) rfl rfl rfl (congrArg Value.bool (decide_eq_true h_15)) ?_
          refine JL.guardOff (b := true) rfl rfl rfl (congrArg Value.bool (decide_eq_true h_15)) ?_
          refine JL.pure rfl (PO.pickT (v := .bool true) (congrArg Value.bool (decide_eq_true h_15)) rfl) ?_
          refine JL.nil ?_
          refine JQ.seq ?_
          refine JC.condT (congrArg Value.bool rfl) ?_
          refine JC.seq ?_
          refine JC.region ?_
          refine JL.pure rfl (PO.assign (v := str []) rfl) ?_
          refine JL.nil ?_
          refine JQ.seq ?_
          refine JC.ret ?_
          refine JQ.thenRet ?_
          refine JQ.blockRet ?_
          refine JQ.thenRet ?_
          refine JQ.thenRet ?_
          refine JQ.blockRet ?_
          refine JQ.thenRet ?_
          refine Done.one (.inl rfl) rfl (RV.tmp (v := str []) rfl) (List.nil_sublist _) ?_
          refine ⟨congrArg str ?_, rfl⟩
          have hrt : recText seq l = recGo (dec seq) l := by unfold recText; rw [if_pos h_1]
          rw [hrt, ← hR, recGo_step hlt, if_pos (by simp only [recBad, Bool.and_true, Bool.true_and, Bool.and_false, Bool.false_and, Bool.or_true, Bool.true_or, Bool.or_false, Bool.false_or, Bool.not_true, Bool.not_false, (h_1), ((decide_eq_true h_11)), (h_14), ((decide_eq_true h_15))])]
        · skip
          refine JL.guardOn rfl rfl rfl (congrArg Value.bool (decide_eq_false h_15)) (JO.call [1] Tryz.call79 rfl (Y_blen b_2 (some ⟨b_2, 0, none⟩) oa b.length oc) (congr (congrArg List.cons he_7) rfl) (fun _ _ => trivial)) ?_
          rintro _ _ ⟨_, ⟨rfl, rfl⟩, rfl⟩
          refine JL.guardOn rfl rfl rfl (congrArg Value.bool (decide_eq_false h_15)) (JO.ofLO (LO.pure (PO.gtr rfl rfl))) ?_
          rintro _ _ ⟨rfl, rfl⟩
          refine JL.pure rfl (PO.pickF (v := .bool (decide (4000 < ((b.length : Nat) : Int)))) (congrArg Value.bool (decide_eq_false h_15)) rfl) ?_
          refine JL.nil ?_
          refine JQ.seq ?_
          by_cases h_16 : 4000 < ((b.length : Nat) : Int)
          · skip
            refine JC.condT (congrArg Value.bool (decide_eq_true h_16)) ?_
            refine JC.seq ?_
            refine JC.region ?_
            refine JL.pure rfl (PO.assign (v := str []) rfl) ?_
            refine JL.nil ?_
            refine JQ.seq ?_
            refine JC.ret ?_
            refine JQ.thenRet ?_
            refine JQ.blockRet ?_
            refine JQ.thenRet ?_
            refine JQ.thenRet ?_
            refine JQ.blockRet ?_
            refine JQ.thenRet ?_
            refine Done.one (.inl rfl) rfl (RV.tmp (v := str []) rfl) (List.nil_sublist _) ?_
            refine ⟨congrArg str ?_, rfl⟩
            have hrt : recText seq l = recGo (dec seq) l := by unfold recText; rw [if_pos h_1]
            rw [hrt, ← hR, recGo_step hlt, if_pos (by simp only [recBad, Bool.and_true, Bool.true_and, Bool.and_false, Bool.false_and, Bool.or_true, Bool.true_or, Bool.or_false, Bool.false_or, Bool.not_true, Bool.not_false, (h_1), ((decide_eq_true h_11)), (h_14), ((decide_eq_false h_15)), ((decide_eq_true h_16))])]
          · skip
            refine JC.condF (congrArg Value.bool (decide_eq_false h_16)) ?_
            refine JC.skip ?_
            refine JQ.seq ?_
            refine JC.regionA [bk b_13 48 [str ((l.getD j c0).1), str ((l.getD j c0).2)]] 1000 mixed (by simp) ?_
            refine JA.takeP 0 rfl (by kernel_rfl) (NP.bl (NP.th (NP.th (NP.bl (NP.th NP.body))))) (by kernel_rfl) (by kernel_rfl) rfl (PO.fieldAddr fo48_0 rfl) ?_
            refine JA.take 1 rfl (by kernel_rfl) (NP.bl (NP.th (NP.th (NP.bl (NP.th NP.body))))) (by kernel_rfl) (by kernel_rfl) (by kernel_rfl) rfl (LO.load1 0 (v := str ((l.getD j c0).1)) rfl rfl Tryz.isAgg9 rfl) ?_
            refine JA.takeP 5 rfl (by kernel_rfl) (NP.bl (NP.th (NP.th (NP.bl (NP.th NP.body))))) (by kernel_rfl) (by kernel_rfl) rfl (PO.fieldAddr fo48_1 rfl) ?_
            refine JA.take 6 rfl (by kernel_rfl) (NP.bl (NP.th (NP.th (NP.bl (NP.th NP.body))))) (by kernel_rfl) (by kernel_rfl) (by kernel_rfl) rfl (LO.load1 0 (v := str ((l.getD j c0).2)) rfl rfl Tryz.isAgg9 rfl) ?_
            refine JA.one (i := 2) (by kernel_rfl) ?_
            refine JX.op rfl rfl (JO.call [] Tryz.call80 rfl (Y_iHex ((l.getD j c0).1) (by omega)) rfl (fun _ _ => trivial)) ?_
            rintro _ _ ⟨_, ⟨rfl, rfl⟩, rfl⟩
            have hxl_20 := hexB_len ((l.getD j c0).1)
            refine ⟨by simp, ?_⟩
            refine JA.takeP 3 rfl (by kernel_rfl) (NP.bl (NP.th (NP.th (NP.bl (NP.th NP.body))))) (by kernel_rfl) (by kernel_rfl) rfl (PO.addS rfl rfl (by (try simp only [List.length_append, List.length_cons, List.length_nil, List.length_drop, List.length_take]); omega)) ?_
            refine JA.takeP 4 rfl (by kernel_rfl) (NP.bl (NP.th (NP.th (NP.bl (NP.th NP.body))))) (by kernel_rfl) (by kernel_rfl) rfl (PO.addS rfl rfl (by (try simp only [List.length_append, List.length_cons, List.length_nil, List.length_drop, List.length_take]); omega)) ?_
            refine JA.one (i := 7) (by kernel_rfl) ?_
            refine JX.op rfl rfl (JO.call [] Tryz.call80 rfl (Y_iHex ((l.getD j c0).2) (by omega)) rfl (fun _ _ => trivial)) ?_
            rintro _ _ ⟨_, ⟨rfl, rfl⟩, rfl⟩
            have hxl_22 := hexB_len ((l.getD j c0).2)
            refine ⟨by simp, ?_⟩
            refine JA.takeP 8 rfl (by kernel_rfl) (NP.bl (NP.th (NP.th (NP.bl (NP.th NP.body))))) (by kernel_rfl) (by kernel_rfl) rfl (PO.addS rfl rfl (by (try simp only [List.length_append, List.length_cons, List.length_nil, List.length_drop, List.length_take]); omega)) ?_
            refine JA.one (i := 9) (by kernel_rfl) ?_
            refine JX.op rfl rfl (JO.call [0, 1] Tryz.call77 rfl (Y_ws1 b_2 oa oc b ((([32] ++ (hexB ((l.getD j c0).1))) ++ [61]) ++ (hexB ((l.getD j c0).2))) (by first | omega | ((try simp only [List.length_append, List.length_cons, List.length_nil]); omega)) (by first | omega | ((try simp only [List.length_append, List.length_cons, List.length_nil]); omega))) (congr (congrArg List.cons he_7) (congr (congrArg List.cons rfl) rfl)) (fun _ _ => trivial)) ?_
            rintro _ _ ⟨_, ⟨a_25, c_26, rfl, rfl⟩, rfl⟩
            refine ⟨by simp, ?_⟩
            refine JA.done (by kernel_rfl) ?_
            refine JQ.blockN ?_
            refine JQ.seq ?_
            refine JC.region ?_
            refine JL.pure rfl (PO.add (c := ((j + 1 : Nat) : Int)) he_10 rfl (wr (by omega))) ?_
            refine JL.pure rfl (PO.move (v := .int .i64 ((j + 1 : Nat) : Int)) rfl) ?_
            refine JL.nil ?_
            refine JQ.pick [0, 0] (A := [bk b_2 93 [.pointer (some ⟨b_2, 0, none⟩), .slice a_25 ((b ++ ((([32] ++ (hexB ((l.getD j c0).1))) ++ [61]) ++ (hexB ((l.getD j c0).2)))).length) c_26], Res.row (.slice a_25 ((b ++ ((([32] ++ (hexB ((l.getD j c0).1))) ++ [61]) ++ (hexB ((l.getD j c0).2)))).length) c_26) 5 1 ((b ++ ((([32] ++ (hexB ((l.getD j c0).1))) ++ [61]) ++ (hexB ((l.getD j c0).2)))).length) ((b ++ ((([32] ++ (hexB ((l.getD j c0).1))) ++ [61]) ++ (hexB ((l.getD j c0).2)))).map encB)]) rfl ?_
            refine JQ.again (l.length - (j + 1)) (by omega) ⟨j + 1, a_25, c_26, (b ++ ((([32] ++ (hexB ((l.getD j c0).1))) ++ [61]) ++ (hexB ((l.getD j c0).2)))), by omega, (by simp only [List.length_append, List.length_cons, List.length_nil]; omega), (by rw [recGo_step hlt, if_neg (by simp only [recBad, Bool.and_true, Bool.true_and, Bool.and_false, Bool.false_and, Bool.or_true, Bool.true_or, Bool.or_false, Bool.false_or, Bool.not_true, Bool.not_false, (h_1), ((decide_eq_true h_11)), (h_14), ((decide_eq_false h_15)), ((decide_eq_false h_16))]; exact Bool.false_ne_true)] at hR; simp only [recRow] at hR; exact hR), he_7, he_8, he_9, rfl, rfl, rfl⟩
      · skip
        refine JL.guardOff (b := true) rfl rfl rfl (congrArg Value.bool (congrArg Bool.not h_14)) ?_
        refine JL.guardOff (b := true) rfl rfl rfl (congrArg Value.bool (congrArg Bool.not h_14)) ?_
        refine JL.guardOff (b := true) rfl rfl rfl (congrArg Value.bool (congrArg Bool.not h_14)) ?_
        refine JL.guardOff (b := true) rfl rfl rfl (congrArg Value.bool (congrArg Bool.not h_14)) ?_
        refine JL.pure rfl (PO.pickT (v := .bool true) (congrArg Value.bool (congrArg Bool.not h_14)) rfl) ?_
        refine JL.pure rfl (PO.move (v := .bool true) rfl) ?_
        refine JL.guardOff (b := true) rfl rfl rfl (congrArg Value.bool rfl) ?_
        refine JL.guardOff (b := true) rfl rfl rfl (congrArg Value.bool rfl) ?_
        refine JL.pure rfl (PO.pickT (v := .bool true) (congrArg Value.bool rfl) rfl) ?_
        refine JL.nil ?_
        refine JQ.seq ?_
        refine JC.condT (congrArg Value.bool rfl) ?_
        refine JC.seq ?_
        refine JC.region ?_
        refine JL.pure rfl (PO.assign (v := str []) rfl) ?_
        refine JL.nil ?_
        refine JQ.seq ?_
        refine JC.ret ?_
        refine JQ.thenRet ?_
        refine JQ.blockRet ?_
        refine JQ.thenRet ?_
        refine JQ.thenRet ?_
        refine JQ.blockRet ?_
        refine JQ.thenRet ?_
        refine Done.one (.inl rfl) rfl (RV.tmp (v := str []) rfl) (List.nil_sublist _) ?_
        refine ⟨congrArg str ?_, rfl⟩
        have hrt : recText seq l = recGo (dec seq) l := by unfold recText; rw [if_pos h_1]
        rw [hrt, ← hR, recGo_step hlt, if_pos (by simp only [recBad, Bool.and_true, Bool.true_and, Bool.and_false, Bool.false_and, Bool.or_true, Bool.true_or, Bool.or_false, Bool.false_or, Bool.not_true, Bool.not_false, (h_1), ((decide_eq_true h_11)), (h_14)])]
    · skip
      refine JC.condF (congrArg Value.bool (decide_eq_false h_11)) ?_
      refine JC.exit ?_
      refine JQ.thenExit ?_
      refine JQ.thenExit ?_
      refine JQ.blockE ?_
      refine JQ.seq ?_
      refine JC.seq ?_
      refine JC.rowBlk 1 rfl (by omega) ?_
      intro g_ cur_ fz_ ha_ hm1_ hm2_ hm3_ hm4_
      have hm63_ : oc ≤ 9223372036854775807 := by unfold maxLen at hm2_; omega
      have hl0_ : b ≠ [] := List.length_pos_iff.1 (by omega)
      refine JC.region ?_
      refine JL.op rfl (JO.call [0, 0] Tryz.call81 rfl (Y_bstr b_2 g_ oc (some ⟨b_2, 0, none⟩) oa cur_ fz_ ha_ b hl0_ (by omega) (by omega) (by omega) (by rw [Nat.mul_one] at hm4_; exact hm4_)) (congr (congrArg List.cons he_7) rfl) (fun _ _ => trivial)) ?_
      rintro _ _ ⟨_, ⟨fz_27, rfl, rfl⟩, rfl⟩
      refine JL.pure rfl (PO.addS rfl rfl (by (try simp only [List.length_append, List.length_cons, List.length_nil, List.length_drop, List.length_take]); omega)) ?_
      refine JL.op rfl (JO.call [0, 0] Tryz.call81 rfl (Y_bstr b_2 g_ oc (some ⟨b_2, 0, none⟩) oa cur_ fz_27 ha_ b hl0_ (by omega) (by omega) (by omega) (by rw [Nat.mul_one] at hm4_; exact hm4_)) (congr (congrArg List.cons he_7) rfl) (fun _ _ => trivial)) ?_
      rintro _ _ ⟨_, ⟨fz_28, rfl, rfl⟩, rfl⟩
      refine JL.op rfl (JO.call [] Tryz.call82 rfl (Y_implSum b (by (try simp only [List.length_append, List.length_cons, List.length_nil]); omega)) rfl (fun _ _ => trivial)) ?_
      rintro _ _ ⟨_, ⟨rfl, rfl⟩, rfl⟩
      have hbs_29 := byteSum_lo b
      refine JL.op rfl (JO.call [] Tryz.call29 rfl (C_decimal ((byteSum b : Nat) : Int) (by omega) (by omega)) rfl (fun _ _ => trivial)) ?_
      rintro _ _ ⟨_, ⟨rfl, rfl⟩, rfl⟩
      have hdl_30 := dec_len (n := ((byteSum b : Nat) : Int)) (by omega) (by omega)
      refine JL.pure rfl (PO.addS rfl rfl (by (try simp only [List.length_append, List.length_cons, List.length_nil, List.length_drop, List.length_take]); omega)) ?_
      refine JL.pure rfl (PO.addS rfl rfl (by (try simp only [List.length_append, List.length_cons, List.length_nil, List.length_drop, List.length_take]); omega)) ?_
      refine JL.pure rfl (PO.assign (v := str (((b ++ [32, 35]) ++ (dec ((byteSum b : Nat) : Int))) ++ [10])) rfl) ?_
      refine JL.nil ?_
      refine JQ.seq ?_
      refine JC.seq ?_
      refine JC.seq ?_
      refine JC.region ?_
      refine JL.pure rfl (PO.move (v := str (((b ++ [32, 35]) ++ (dec ((byteSum b : Nat) : Int))) ++ [10])) rfl) ?_
      refine JL.pure rfl (PO.lenS Tryz.underlying9 rfl) ?_
      refine JL.pure rfl (PO.gtr rfl rfl) ?_
      refine JL.nil ?_
      refine JQ.seq ?_
      by_cases h_31 : 4000 < ((((b ++ [32, 35]) ++ (dec ((byteSum b : Nat) : Int))) ++ [10]).length : Int)
      · skip
        refine JC.condT (congrArg Value.bool (decide_eq_true h_31)) ?_
        refine JC.seq ?_
        refine JC.region ?_
        refine JL.pure rfl (PO.assign (v := str []) rfl) ?_
        refine JL.nil ?_
        refine JQ.seq ?_
        refine JC.ret ?_
        refine JQ.thenRet ?_
        refine Done.one (.inl rfl) rfl (RV.tmp (v := str []) rfl) (List.nil_sublist _) ?_
        refine ⟨congrArg str ?_, rfl⟩
        have hrt : recText seq l = recGo (dec seq) l := by unfold recText; rw [if_pos h_1]
        rw [hrt, ← hR, List.drop_of_length_le (by omega), recGo, recEnd]
        first | rw [if_pos (by assumption)] | rw [if_neg (by assumption)]
      · skip
        refine JC.condF (congrArg Value.bool (decide_eq_false h_31)) ?_
        refine JC.skip ?_
        refine JQ.seq ?_
        refine JC.seq ?_
        refine JC.region ?_
        refine JL.pure rfl (PO.move (v := str (((b ++ [32, 35]) ++ (dec ((byteSum b : Nat) : Int))) ++ [10])) rfl) ?_
        refine JL.pure rfl (PO.assign (v := str (((b ++ [32, 35]) ++ (dec ((byteSum b : Nat) : Int))) ++ [10])) rfl) ?_
        refine JL.nil ?_
        refine JQ.seq ?_
        refine JC.ret ?_
        refine Done.one (.inl rfl) rfl (RV.tmp (v := str (((b ++ [32, 35]) ++ (dec ((byteSum b : Nat) : Int))) ++ [10])) rfl) (List.nil_sublist _) ?_
        refine ⟨congrArg str ?_, rfl⟩
        have hrt : recText seq l = recGo (dec seq) l := by unfold recText; rw [if_pos h_1]
        rw [hrt, ← hR, List.drop_of_length_le (by omega), recGo, recEnd]
        first | rw [if_pos (by assumption)] | rw [if_neg (by assumption)]
  · skip
    refine JC.condT (congrArg Value.bool (congrArg Bool.not h_1)) ?_
    refine JC.seq ?_
    refine JC.region ?_
    refine JL.pure rfl (PO.assign (v := str []) rfl) ?_
    refine JL.nil ?_
    refine JQ.seq ?_
    refine JC.ret ?_
    refine JQ.thenRet ?_
    refine Done.one (.inl rfl) rfl (RV.tmp (v := str []) rfl) (List.nil_sublist _) ?_
    refine ⟨congrArg str ?_, rfl⟩
    unfold recText
    rw [h_1]
    rfl

theorem Y_iUnhex (t : Str) (ht : t.length ≤ 100000000) : Ct Tryz.prog 115 [str t] [] (fun w => HexOk w) (fun v A' => v = .tuple #[str (unhex t).1, .bool (unhex t).2] ∧ A' = []) :=
  (N_unhex t (by omega)).weak (fun _ h => h) fun v A' ⟨u, b, e, _, hv, hA⟩ => ⟨by rw [hv, e], hA⟩
theorem cutB_len (c : UInt8) : ∀ s : Str, (cutB c s).1.length ≤ s.length ∧ (cutB c s).2.length ≤ s.length
  | [] => ⟨Nat.le_refl _, Nat.le_refl _⟩
  | x :: s => by
    have h := cutB_len c s
    unfold cutB
    split
    · exact ⟨Nat.zero_le _, by simp⟩
    · simp only [List.length_cons]; omega

set_option maxRecDepth 4000 in
set_option maxHeartbeats 1000000 in
theorem Y_iRead (t : Str) (ht : t.length ≤ 100000000) :
    Ct Tryz.prog 64 [str t] [] (fun w => HexOk w) (fun v A' => ∃ a c, v = .tuple #[.int .i64 (readI t).1, .slice a (readI t).2.1.length c, .bool (readI t).2.2] ∧ A' = [.row (.slice a (readI t).2.1.length c) 48 2 (readI t).2.1.length ((readI t).2.1.flatMap encC)]) := by
  refine Ct.introL Tryz.func64 rfl Tryz.ntmps64 (Nat.le_of_ble_eq_true rfl) fun w0 hpre hlow => ?_
  refine JC.seq ?_
  refine JC.region ?_
  refine JL.pure rfl (PO.assign (v := .int .i64 0) rfl) ?_
  refine JL.pure rfl (PO.assign (v := .slice none 0 0) rfl) ?_
  refine JL.pure rfl (PO.assign (v := .bool false) rfl) ?_
  refine JL.nil ?_
  refine JQ.seq ?_
  refine JC.seq ?_
  refine JC.seq ?_
  refine JC.region ?_
  refine JL.pure rfl (PO.move (v := str t) rfl) ?_
  refine JL.pure rfl (PO.lenS Tryz.underlying9 rfl) ?_
  refine JL.pure rfl (PO.gtr rfl rfl) ?_
  refine JL.nil ?_
  refine JQ.seq ?_
  by_cases h_1 : 4000 < (t.length : Int)
  · skip
    refine JC.condT (congrArg Value.bool (decide_eq_true h_1)) ?_
    refine JC.seq ?_
    refine JC.region ?_
    refine JL.pure rfl (PO.assign (v := .int .i64 0) rfl) ?_
    refine JL.pure rfl (PO.assign (v := .slice none 0 0) rfl) ?_
    refine JL.pure rfl (PO.assign (v := .bool false) rfl) ?_
    refine JL.nil ?_
    refine JQ.seq ?_
    refine JC.ret ?_
    refine JQ.thenRet ?_
    refine JQ.nilRow 48 2 ?_
    refine Done.three (.inl rfl) rfl (RV.tmp (v := .int .i64 0) rfl) (RV.tmp (v := .slice none 0 0) rfl) (RV.tmp (v := .bool false) rfl) (List.Sublist.refl _) ?_
    have he : readI t = (0, [], false) := if_pos h_1
    exact ⟨none, 0, by rw [he] <;> rfl, by rw [he] <;> rfl⟩
  · skip
    refine JC.condF (congrArg Value.bool (decide_eq_false h_1)) ?_
    refine JC.skip ?_
    refine JQ.seq ?_
    refine JC.seq ?_
    refine JC.region ?_
    refine JL.pure rfl (PO.move (v := str t) rfl) ?_
    refine JL.op rfl (JO.call [] Tryz.call112 rfl (Y_split t 32 (by omega)) rfl (fun _ _ => trivial)) ?_
    rintro _ _ ⟨_, ⟨a_2, c_3, rfl, rfl⟩, rfl⟩
    have hsp_4 := splitB_len 32 t
    refine JL.pure rfl (PO.assign (v := .slice a_2 ((splitB 32 t).length) c_3) rfl) ?_
    refine JL.nil ?_
    refine JQ.seq ?_
    refine JC.seq ?_
    refine JC.region ?_
    refine JL.pure rfl (PO.move (v := .slice a_2 ((splitB 32 t).length) c_3) rfl) ?_
    refine JL.facts fun hst => ?_
    obtain ⟨hr_5, hr_5b, -⟩ := row_some 0 rfl (by omega) hst
    refine JL.pure rfl (PO.indexAddrV (i := 0) Tryz.underlying71 Tryz.sizeOf9 hr_5 hr_5b rfl rfl (by omega)) ?_
    refine JL.ld rfl (LO.loadR1 0 (v := str ((splitB 32 t).getD 0 [])) rfl rfl Tryz.isAgg9 (atS (by omega))) ?_
    refine JL.op rfl (JO.call [] Tryz.call113 rfl (C_readDecimal ((splitB 32 t).getD 0 []) (by have h_2 := splitB_get 32 t 0; omega)) rfl (fun _ _ => trivial)) ?_
    rintro _ _ ⟨_, ⟨rfl, rfl⟩, rfl⟩
    refine JL.pure rfl (PO.move (v := .tuple #[.int .i64 ((readDec ((splitB 32 t).getD 0 [])).1), .bool ((readDec ((splitB 32 t).getD 0 [])).2)]) rfl) ?_
    refine JL.pure rfl (PO.extract (v := .int .i64 ((readDec ((splitB 32 t).getD 0 [])).1)) rfl rfl) ?_
    refine JL.pure rfl (PO.extract (v := .bool ((readDec ((splitB 32 t).getD 0 [])).2)) rfl rfl) ?_
    refine JL.pure rfl (PO.assign (v := .int .i64 ((readDec ((splitB 32 t).getD 0 [])).1)) rfl) ?_
    refine JL.pure rfl (PO.assign (v := .bool ((readDec ((splitB 32 t).getD 0 [])).2)) rfl) ?_
    refine JL.nil ?_
    refine JQ.seq ?_
    refine JC.seq ?_
    refine JC.region ?_
    refine JL.pure rfl (PO.assign (v := .slice none 0 0) rfl) ?_
    refine JL.nil ?_
    refine JQ.seq ?_
    refine JC.seq ?_
    refine JC.seq ?_
    refine JC.region ?_
    refine JL.pure rfl (PO.move (v := .slice a_2 ((splitB 32 t).length) c_3) rfl) ?_
    refine JL.pure rfl (PO.move (v := .slice a_2 ((splitB 32 t).length) c_3) rfl) ?_
    refine JL.pure rfl (PO.lenV Tryz.underlying71 rfl) ?_
    refine JL.pure rfl (PO.max2D (c := ((max (splitB 32 t).length 2 : Nat) : Int)) rfl rfl (by omega)) ?_
    refine JL.pure rfl (PO.sub (c := (((max (splitB 32 t).length 2) - 1 : Nat) : Int)) rfl rfl (wr (by omega))) ?_
    refine JL.facts fun hst => ?_
    obtain ⟨hf_6m, hf_6x, hf_6s, hf_6l⟩ := fits_of hst (i := 0) rfl
    refine JL.pure rfl (PO.sliceVlh (i := 1) (j := ((max (splitB 32 t).length 2) - 1)) Tryz.underlying71 Tryz.sizeOf9 hf_6s rfl rfl rfl (by omega) (by omega)) ?_
    refine JL.pure rfl (PO.lenV Tryz.underlying71 rfl) ?_
    refine JL.pure rfl (PO.move (v := .int .i64 0) rfl) ?_
    refine JL.nil ?_
    refine JQ.seq ?_
    refine JC.block ?_
    refine JC.nilRow 48 2 ?_
    refine JC.loop (fun k_ e_ L_ => ∃ j : Nat, ∃ oa : Option Addr, ∃ oc : Nat, ∃ o_ : List Cell, (j ≤ max (splitB 32 t).length 2 - 1 - 1) ∧ (o_.length ≤ j) ∧ (o_ = (((splitB 32 t).drop 1).take j).map readWord) ∧ e_ 0 = str t ∧ e_ 2 = .int .i64 0 ∧ e_ 3 = .slice none 0 0 ∧ e_ 4 = .bool false ∧ e_ 6 = .int .i64 ((readDec ((splitB 32 t).getD 0 [])).1) ∧ e_ 8 = .slice oa o_.length oc ∧ e_ 35 = .slice (subA 1 a_2 c_3 1) (((max (splitB 32 t).length 2) - 1) - 1) (c_3 - 1) ∧ e_ 36 = .int .i64 ((((max (splitB 32 t).length 2) - 1) - 1 : Nat) : Int) ∧ e_ 37 = .int .i64 ((j : Nat) : Int) ∧ L_ = [rC oa oc o_, rS a_2 c_3 (splitB 32 t)] ∧ k_ = (max (splitB 32 t).length 2 - 1 - 1) - j) _ ⟨0, none, 0, [], by omega, (by simp), (by simp), rfl, rfl, rfl, rfl, rfl, rfl, rfl, rfl, rfl, rfl, rfl⟩ ?_
    rintro _ e_7 _ ⟨j, oa, oc, o_, hj, hol, ho, he_8, he_9, he_10, he_11, he_12, he_13, he_14, he_15, he_16, rfl, rfl⟩
    refine JC.seq ?_
    refine JC.region ?_
    refine JL.pure rfl (PO.lss he_16 he_15) ?_
    refine JL.nil ?_
    refine JQ.seq ?_
    refine JC.seq ?_
    by_cases h_17 : ((j : Nat) : Int) < ((((max (splitB 32 t).length 2) - 1) - 1 : Nat) : Int)
    · skip
      have hlt : j < (splitB 32 t).length := by omega
      refine JC.condT (congrArg Value.bool (decide_eq_true h_17)) ?_
      refine JC.skip ?_
      refine JQ.seq ?_
      refine JC.seq ?_
      refine JC.block ?_
      refine JC.seq ?_
      refine JC.region ?_
      refine JL.pure rfl (PO.indexSub (lo := 1) (i := j) Tryz.underlying71 Tryz.sizeOf9 hr_5 hr_5b he_14 he_16 (by omega) (by omega)) ?_
      refine JL.ld rfl (LO.loadR1 1 (v := str ((splitB 32 t).getD (1 + j) [])) rfl rfl Tryz.isAgg9 (atS (by omega))) ?_
      refine JL.pure rfl (PO.assign (v := str ((splitB 32 t).getD (1 + j) [])) rfl) ?_
      refine JL.nil ?_
      refine JQ.seq ?_
      refine JC.seq ?_
      refine JC.region ?_
      refine JL.pure rfl (PO.move (v := str ((splitB 32 t).getD (1 + j) [])) rfl) ?_
      refine JL.op rfl (JO.call [] Tryz.call114 rfl (Y_cut ((splitB 32 t).getD (1 + j) []) 61 (by have h_1 := splitB_get 32 t (1 + j); omega)) rfl (fun _ _ => trivial)) ?_
      rintro _ _ ⟨_, ⟨b_18, rfl, rfl⟩, rfl⟩
      refine JL.pure rfl (PO.move (v := .tuple #[str ((cutB 61 ((splitB 32 t).getD (1 + j) [])).1), str ((cutB 61 ((splitB 32 t).getD (1 + j) [])).2), .bool b_18]) rfl) ?_
      refine JL.pure rfl (PO.extract (v := str ((cutB 61 ((splitB 32 t).getD (1 + j) [])).1)) rfl rfl) ?_
      refine JL.pure rfl (PO.extract (v := str ((cutB 61 ((splitB 32 t).getD (1 + j) [])).2)) rfl rfl) ?_
      refine JL.pure rfl (PO.extract (v := .bool b_18) rfl rfl) ?_
      refine JL.pure rfl (PO.assign (v := str ((cutB 61 ((splitB 32 t).getD (1 + j) [])).1)) rfl) ?_
      refine JL.pure rfl (PO.assign (v := str ((cutB 61 ((splitB 32 t).getD (1 + j) [])).2)) rfl) ?_
      refine JL.pure rfl (PO.assign (v := .bool b_18) rfl) ?_
      refine JL.nil ?_
      refine JQ.seq ?_
      refine JC.seq ?_
      refine JC.region ?_
      refine JL.pure rfl (PO.move (v := str ((cutB 61 ((splitB 32 t).getD (1 + j) [])).1)) rfl) ?_
      refine JL.op rfl (JO.call [] Tryz.call115 rfl (Y_iUnhex ((cutB 61 ((splitB 32 t).getD (1 + j) [])).1) (by have h_1 := splitB_get 32 t (1 + j); have h_2 := cutB_len 61 ((splitB 32 t).getD (1 + j) []); omega)) rfl (fun w hw => hw.hex hlow hpre)) ?_
      rintro _ _ ⟨_, ⟨rfl, rfl⟩, rfl⟩
      refine JL.pure rfl (PO.move (v := .tuple #[str ((unhex ((cutB 61 ((splitB 32 t).getD (1 + j) [])).1)).1), .bool ((unhex ((cutB 61 ((splitB 32 t).getD (1 + j) [])).1)).2)]) rfl) ?_
      refine JL.pure rfl (PO.extract (v := str ((unhex ((cutB 61 ((splitB 32 t).getD (1 + j) [])).1)).1)) rfl rfl) ?_
      refine JL.pure rfl (PO.extract (v := .bool ((unhex ((cutB 61 ((splitB 32 t).getD (1 + j) [])).1)).2)) rfl rfl) ?_
      refine JL.pure rfl (PO.assign (v := str ((unhex ((cutB 61 ((splitB 32 t).getD (1 + j) [])).1)).1)) rfl) ?_
      refine JL.pure rfl (PO.assign (v := .bool ((unhex ((cutB 61 ((splitB 32 t).getD (1 + j) [])).1)).2)) rfl) ?_
      refine JL.nil ?_
      refine JQ.seq ?_
      refine JC.seq ?_
      refine JC.region ?_
      refine JL.pure rfl (PO.move (v := str ((cutB 61 ((splitB 32 t).getD (1 + j) [])).2)) rfl) ?_
      refine JL.op rfl (JO.call [] Tryz.call115 rfl (Y_iUnhex ((cutB 61 ((splitB 32 t).getD (1 + j) [])).2) (by have h_1 := splitB_get 32 t (1 + j); have h_2 := cutB_len 61 ((splitB 32 t).getD (1 + j) []); omega)) rfl (fun w hw => hw.hex hlow hpre)) ?_
      rintro _ _ ⟨_, ⟨rfl, rfl⟩, rfl⟩
      refine JL.pure rfl (PO.move (v := .tuple #[str ((unhex ((cutB 61 ((splitB 32 t).getD (1 + j) [])).2)).1), .bool ((unhex ((cutB 61 ((splitB 32 t).getD (1 + j) [])).2)).2)]) rfl) ?_
      refine JL.pure rfl (PO.extract (v := str ((unhex ((cutB 61 ((splitB 32 t).getD (1 + j) [])).2)).1)) rfl rfl) ?_
      refine JL.pure rfl (PO.extract (v := .bool ((unhex ((cutB 61 ((splitB 32 t).getD (1 + j) [])).2)).2)) rfl rfl) ?_
      refine JL.pure rfl (PO.assign (v := str ((unhex ((cutB 61 ((splitB 32 t).getD (1 + j) [])).2)).1)) rfl) ?_
      refine JL.pure rfl (PO.assign (v := .bool ((unhex ((cutB 61 ((splitB 32 t).getD (1 + j) [])).2)).2)) rfl) ?_
      refine JL.nil ?_
      refine JQ.seq ?_
      refine JC.region ?_
      refine JL.pure rfl (PO.move (v := .slice oa o_.length oc) he_13) ?_
      refine JL.pure rfl (PO.move (v := str ((unhex ((cutB 61 ((splitB 32 t).getD (1 + j) [])).1)).1)) rfl) ?_
      refine JL.pure rfl (PO.move (v := str ((unhex ((cutB 61 ((splitB 32 t).getD (1 + j) [])).2)).1)) rfl) ?_
      refine JL.pure rfl (PO.build (ps := [(0, str ((unhex ((cutB 61 ((splitB 32 t).getD (1 + j) [])).1)).1)), (1, str ((unhex ((cutB 61 ((splitB 32 t).getD (1 + j) [])).2)).1))]) (cs := [str ((unhex ((cutB 61 ((splitB 32 t).getD (1 + j) [])).1)).1), str ((unhex ((cutB 61 ((splitB 32 t).getD (1 + j) [])).2)).1)]) rfl (by kernel_rfl)) ?_
      refine JL.op rfl (JO.buildSlice (ps := [(0, .agg #[str ((unhex ((cutB 61 ((splitB 32 t).getD (1 + j) [])).1)).1), str ((unhex ((cutB 61 ((splitB 32 t).getD (1 + j) [])).2)).1)])]) (cur := #[str ((unhex ((cutB 61 ((splitB 32 t).getD (1 + j) [])).1)).1), str ((unhex ((cutB 61 ((splitB 32 t).getD (1 + j) [])).2)).1)]) Tryz.underlying49 Tryz.sizeOf48 Tryz.zeroValue48 rfl (by kernel_rfl) (by decide) (by decide)) ?_
      rintro _ _ ⟨a_19, rfl, rfl⟩
      refine JL.op rfl (JO.append' 1 (q := 1) (news := ([((unhex ((cutB 61 ((splitB 32 t).getD (1 + j) [])).1)).1, (unhex ((cutB 61 ((splitB 32 t).getD (1 + j) [])).2)).1)] : List Cell).flatMap encC) (n' := (o_ ++ ([((unhex ((cutB 61 ((splitB 32 t).getD (1 + j) [])).1)).1, (unhex ((cutB 61 ((splitB 32 t).getD (1 + j) [])).2)).1)] : List Cell)).length) (cs' := (o_ ++ ([((unhex ((cutB 61 ((splitB 32 t).getD (1 + j) [])).1)).1, (unhex ((cutB 61 ((splitB 32 t).getD (1 + j) [])).2)).1)] : List Cell)).flatMap encC) rfl Tryz.underlying49 Tryz.underlying49 Tryz.typeInfo48 rfl (by' := 32) rfl rfl rfl rfl rfl (fun w hw => Src.sees (hw.see (i := 0) rfl) (oneC _)) (by (try simp only [List.length_append, List.length_cons, List.length_nil, List.length_take, List.length_drop]); omega) (by (try simp only [List.length_append, List.length_cons, List.length_nil, List.length_take, List.length_drop]); omega) (by simp only [List.length_append, List.length_take, List.length_drop, List.length_cons, List.length_nil] <;> first | rfl | omega) (by simp only [List.flatMap_append])) ?_
      rintro _ _ ⟨a_20, c_21, rfl, rfl⟩
      refine JL.pure rfl (PO.assign (v := .slice a_20 ((o_ ++ ([((unhex ((cutB 61 ((splitB 32 t).getD (1 + j) [])).1)).1, (unhex ((cutB 61 ((splitB 32 t).getD (1 + j) [])).2)).1)] : List Cell)).length) c_21) rfl) ?_
      refine JL.nil ?_
      refine JQ.blockN ?_
      refine JQ.seq ?_
      refine JC.region ?_
      refine JL.pure rfl (PO.add (c := ((j + 1 : Nat) : Int)) he_16 rfl (wr (by omega))) ?_
      refine JL.pure rfl (PO.move (v := .int .i64 ((j + 1 : Nat) : Int)) rfl) ?_
      refine JL.nil ?_
      refine JQ.pick [1, 1] (A := [rC a_20 c_21 (o_ ++ ([((unhex ((cutB 61 ((splitB 32 t).getD (1 + j) [])).1)).1, (unhex ((cutB 61 ((splitB 32 t).getD (1 + j) [])).2)).1)] : List Cell)), rS a_2 c_3 (splitB 32 t)]) rfl ?_
      refine JQ.again ((max (splitB 32 t).length 2 - 1 - 1) - (j + 1)) (by omega) ⟨j + 1, a_20, c_21, (o_ ++ ([((unhex ((cutB 61 ((splitB 32 t).getD (1 + j) [])).1)).1, (unhex ((cutB 61 ((splitB 32 t).getD (1 + j) [])).2)).1)] : List Cell)), by omega, (by (try simp only [List.length_append, List.length_cons, List.length_nil]); omega), (by have h_ := mids_step (p := splitB 32 t) (i := j + 1) (by omega) (by omega); simp only [Nat.add_sub_cancel] at h_; rw [h_, ← ho, Nat.add_comm 1 j]; rfl), he_8, he_9, he_10, he_11, he_12, rfl, he_14, he_15, rfl, rfl, rfl⟩
    · skip
      refine JC.condF (congrArg Value.bool (decide_eq_false h_17)) ?_
      refine JC.exit ?_
      refine JQ.thenExit ?_
      refine JQ.thenExit ?_
      refine JQ.blockE ?_
      refine JQ.seq ?_
      refine JC.seq ?_
      refine JC.seq ?_
      have hokl : okC o_ := by rw [ho]; exact okC_read (by rw [List.length_take, List.length_drop]; omega)
      refine JC.region ?_
      refine JL.pure rfl (PO.move (v := str t) he_8) ?_
      refine JL.pure rfl (PO.eqlS rfl rfl) ?_
      refine JL.pure rfl (PO.move (v := .bool (decide (t = []))) rfl) ?_
      by_cases h_22 : t = []
      · skip
        refine JL.guardOff (b := true) rfl rfl rfl (congrArg Value.bool (decide_eq_true h_22)) ?_
        refine JL.guardOff (b := true) rfl rfl rfl (congrArg Value.bool (decide_eq_true h_22)) ?_
        refine JL.guardOff (b := true) rfl rfl rfl (congrArg Value.bool (decide_eq_true h_22)) ?_
        refine JL.guardOff (b := true) rfl rfl rfl (congrArg Value.bool (decide_eq_true h_22)) ?_
        refine JL.guardOff (b := true) rfl rfl rfl (congrArg Value.bool (decide_eq_true h_22)) ?_
        refine JL.pure rfl (PO.pickT (v := .bool true) (congrArg Value.bool (decide_eq_true h_22)) rfl) ?_
        refine JL.nil ?_
        refine JQ.seq ?_
        refine JC.condT (congrArg Value.bool rfl) ?_
        refine JC.seq ?_
        refine JC.region ?_
        refine JL.pure rfl (PO.assign (v := .int .i64 0) rfl) ?_
        refine JL.pure rfl (PO.assign (v := .slice none 0 0) rfl) ?_
        refine JL.pure rfl (PO.assign (v := .bool false) rfl) ?_
        refine JL.nil ?_
        refine JQ.seq ?_
        refine JC.ret ?_
        refine JQ.thenRet ?_
        refine JQ.nilRow 48 2 ?_
        refine Done.three (.inl rfl) rfl (RV.tmp (v := .int .i64 0) rfl) (RV.tmp (v := .slice none 0 0) rfl) (RV.tmp (v := .bool false) rfl) (List.sublist_append_left [Res.row (.slice none 0 0) 48 2 0 (([] : List Cell).flatMap encC)] [rC oa oc o_, rS a_2 c_3 (splitB 32 t)]) ?_
        have hmi : (midsOf (splitB 32 t)).map readWord = o_ := by rw [ho, midsOf, show j = (splitB 32 t).length - 2 by omega]
        have he : readI t = (0, [], false) := by unfold readI; rw [if_neg h_1, hmi, if_pos (by first | exact .inl (by assumption) | exact .inr (by assumption))]
        exact ⟨none, 0, by rw [he] <;> rfl, by rw [he] <;> rfl⟩
      · skip
        refine JL.guardOn rfl rfl rfl (congrArg Value.bool (decide_eq_false h_22)) (JO.ofLO (LO.pure (PO.move (v := .int .i64 ((readDec ((splitB 32 t).getD 0 [])).1)) he_12))) ?_
        rintro _ _ ⟨rfl, rfl⟩
        refine JL.guardOn rfl rfl rfl (congrArg Value.bool (decide_eq_false h_22)) (JO.ofLO (LO.pure (PO.move (v := .slice oa o_.length oc) he_13))) ?_
        rintro _ _ ⟨rfl, rfl⟩
        refine JL.guardOn rfl rfl rfl (congrArg Value.bool (decide_eq_false h_22)) (JO.call [] Tryz.call28 rfl (Y_iRec ((readDec ((splitB 32 t).getD 0 [])).1) oa oc o_ hokl) rfl (fun w hw => hw.see (i := 0) rfl)) ?_
        rintro _ _ ⟨_, ⟨rfl, rfl⟩, rfl⟩
        refine JL.guardOn rfl rfl rfl (congrArg Value.bool (decide_eq_false h_22)) (JO.ofLO (LO.pure (PO.move (v := str t) he_8))) ?_
        rintro _ _ ⟨rfl, rfl⟩
        refine JL.guardOn rfl rfl rfl (congrArg Value.bool (decide_eq_false h_22)) (JO.ofLO (LO.pure (PO.neqS rfl rfl))) ?_
        rintro _ _ ⟨rfl, rfl⟩
        refine JL.pure rfl (PO.pickF (v := .bool (!(decide ((recText ((readDec ((splitB 32 t).getD 0 [])).1) o_) = t)))) (congrArg Value.bool (decide_eq_false h_22)) rfl) ?_
        refine JL.nil ?_
        refine JQ.seq ?_
        by_cases h_23 : (recText ((readDec ((splitB 32 t).getD 0 [])).1) o_) = t
        · skip
          refine JC.condF (congrArg Value.bool (congrArg Bool.not (decide_eq_true h_23))) ?_
          refine JC.skip ?_
          refine JQ.seq ?_
          refine JC.seq ?_
          refine JC.region ?_
          refine JL.pure rfl (PO.move (v := .int .i64 ((readDec ((splitB 32 t).getD 0 [])).1)) he_12) ?_
          refine JL.pure rfl (PO.move (v := .slice oa o_.length oc) he_13) ?_
          refine JL.pure rfl (PO.assign (v := .int .i64 ((readDec ((splitB 32 t).getD 0 [])).1)) rfl) ?_
          refine JL.pure rfl (PO.assign (v := .slice oa o_.length oc) rfl) ?_
          refine JL.pure rfl (PO.assign (v := .bool true) rfl) ?_
          refine JL.nil ?_
          refine JQ.seq ?_
          refine JC.ret ?_
          refine Done.three (.inl rfl) rfl (RV.tmp (v := .int .i64 ((readDec ((splitB 32 t).getD 0 [])).1)) rfl) (RV.tmp (v := .slice oa o_.length oc) rfl) (RV.tmp (v := .bool true) rfl) (List.sublist_append_left [rC oa oc o_] [rS a_2 c_3 (splitB 32 t)]) ?_
          have hmi : (midsOf (splitB 32 t)).map readWord = o_ := by rw [ho, midsOf, show j = (splitB 32 t).length - 2 by omega]
          have he : readI t = ((readDec ((splitB 32 t).getD 0 [])).1, o_, true) := by unfold readI; rw [if_neg h_1, hmi, if_neg (by rintro (h_ | h_) <;> simp_all)]
          exact ⟨oa, oc, by rw [he] <;> rfl, by rw [he] <;> rfl⟩
        · skip
          refine JC.condT (congrArg Value.bool (congrArg Bool.not (decide_eq_false h_23))) ?_
          refine JC.seq ?_
          refine JC.region ?_
          refine JL.pure rfl (PO.assign (v := .int .i64 0) rfl) ?_
          refine JL.pure rfl (PO.assign (v := .slice none 0 0) rfl) ?_
          refine JL.pure rfl (PO.assign (v := .bool false) rfl) ?_
          refine JL.nil ?_
          refine JQ.seq ?_
          refine JC.ret ?_
          refine JQ.thenRet ?_
          refine JQ.nilRow 48 2 ?_
          refine Done.three (.inl rfl) rfl (RV.tmp (v := .int .i64 0) rfl) (RV.tmp (v := .slice none 0 0) rfl) (RV.tmp (v := .bool false) rfl) (List.sublist_append_left [Res.row (.slice none 0 0) 48 2 0 (([] : List Cell).flatMap encC)] [rC oa oc o_, rS a_2 c_3 (splitB 32 t)]) ?_
          have hmi : (midsOf (splitB 32 t)).map readWord = o_ := by rw [ho, midsOf, show j = (splitB 32 t).length - 2 by omega]
          have he : readI t = (0, [], false) := by unfold readI; rw [if_neg h_1, hmi, if_pos (by first | exact .inl (by assumption) | exact .inr (by assumption))]
          exact ⟨none, 0, by rw [he] <;> rfl, by rw [he] <;> rfl⟩

end Go.Proofs.YtjncpgcccgdeiaaGreatDoor

set_option linter.unusedSimpArgs false
set_option linter.unusedVariables false
set_option linter.unnecessarySimpa false
namespace Go.Proofs.YtjncpgcccgdeiaaGreatDoor
open Go Go.RowKit
def sumLen (l : List Str) : Nat := l.foldr (fun x n => x.length + n) 0
theorem linesG_sum : ∀ (t b : Str), sumLen (linesG b t) ≤ b.length + t.length
  | [], b => Nat.zero_le _
  | c :: t, b => by
    unfold linesG
    split
    · have := linesG_sum t []
      simp only [sumLen, List.foldr_cons, List.length_append, List.length_cons, List.length_nil] at *
      omega
    · have := linesG_sum t (b ++ [c])
      simp only [List.length_append, List.length_cons, List.length_nil] at *
      omega
theorem linesG_mem : ∀ (t b x : Str), x ∈ linesG b t → x.length ≤ b.length + t.length
  | [], b, x, h => by cases h
  | c :: t, b, x, h => by
    unfold linesG at h
    split at h
    · rcases List.mem_cons.1 h with rfl | h
      · simp only [List.length_append, List.length_cons, List.length_nil]; omega
      · have := linesG_mem t [] x h; simp only [List.length_cons, List.length_nil] at *; omega
    · have := linesG_mem t (b ++ [c]) x h; simp only [List.length_append, List.length_cons, List.length_nil] at *; omega
theorem linesG_len : ∀ (t b : Str), (linesG b t).length ≤ t.length
  | [], b => Nat.le_refl _
  | c :: t, b => by
    unfold linesG
    split
    · have := linesG_len t []; simp only [List.length_cons]; omega
    · have := linesG_len t (b ++ [c]); simp only [List.length_cons]; omega
/-- The records of a journal from f on: their cells, and how many bytes they take with those before them; m are there already. -/
def recsG (f : Int) : Nat → List Str → List (List Cell) × Nat
  | _, [] => ([], 0)
  | m, x :: l =>
    if (readI x).2.2 = false then ([], 0)
    else if m = 0 ∧ (readI x).1 < f then ((recsG f m l).1, x.length + (recsG f m l).2)
    else if (readI x).1 = f + ((m : Nat) : Int) then ((readI x).2.1 :: (recsG f (m + 1) l).1, x.length + (recsG f (m + 1) l).2)
    else ([], 0)
def recsOf (t : Str) (f : Int) : List (List Cell) × Nat := if within 1 f 100000 = true then recsG f 0 (linesOf t) else ([], 0)
theorem recsG_sum (f : Int) : ∀ (l : List Str) (m : Nat), (recsG f m l).2 ≤ sumLen l ∧ (recsG f m l).1.length ≤ l.length
  | [], m => ⟨Nat.le_refl _, Nat.le_refl _⟩
  | x :: l, m => by
    have h1 := recsG_sum f l m
    have h2 := recsG_sum f l (m + 1)
    unfold recsG
    simp only [sumLen, List.foldr_cons, List.length_cons] at *
    split
    · exact ⟨Nat.zero_le _, Nat.zero_le _⟩
    · split
      · dsimp only; exact ⟨by omega, by omega⟩
      · split
        · dsimp only; simp only [List.length_cons]; exact ⟨by omega, by omega⟩
        · exact ⟨Nat.zero_le _, Nat.zero_le _⟩
theorem recsOf_le (t : Str) (f : Int) : (recsOf t f).2 ≤ t.length := by
  unfold recsOf
  split
  · have h1 := (recsG_sum f (linesOf t) 0).1
    have h2 := linesG_sum t []
    simp only [List.length_nil] at h2
    unfold linesOf at *
    omega
  · exact Nat.zero_le _
def mostOf (d : DD) : Int := (d.slots.getD (bestD d).toNat o0.t).seq
theorem diskOk_best {d : DD} (h : diskOk d = true) : ∃ q : Nat, bestD d = ((q : Nat) : Int) ∧ q < d.slots.length := by
  unfold diskOk diskOkF at h
  simp only [Bool.and_eq_true] at h
  obtain ⟨h1, h2, _⟩ := h
  rw [← bestF_any] at h2
  have h3 := of_decide_eq_true h2
  have h4 := bestF_lo (fun i => d.slots.getD i o0.t) d.slots.length
  exact ⟨(bestD d).toNat, by unfold bestD at *; omega, by unfold bestD at *; omega⟩
theorem diskOk_jour {d : DD} (h : diskOk d = true) : jourOk d.jt d.js = true := by
  unfold diskOk diskOkF at h
  simp only [Bool.and_eq_true] at h
  exact h.2.2.2
end Go.Proofs.YtjncpgcccgdeiaaGreatDoor

set_option linter.unusedSimpArgs false
set_option linter.unusedVariables false
set_option linter.unnecessarySimpa false
namespace Go.Proofs.YtjncpgcccgdeiaaGreatDoor
open Go Go.RowKit
section
variable {P : Program} {ops : Array Oper} {Q : Exit → Act → World → Prop} {n : Nat} {w0 : World} {D : List Nat} {L : List Res} {e : Env} {ro : Option Nat} {ds : List Deferred}
def fenceR (ro : Option Nat) : Fence := { Fence.wide with round := ro }
def actD (n : Nat) (e : Env) (ds : List Deferred) : Act := { tmps := Array.ofFn (n := n) (fun i => e i.val), defers := ds }
theorem actD_eval (n : Nat) (e : Env) (ds : List Deferred) : (actD n e ds).eval = rd n e := act_eval' n e
theorem actD_put (n : Nat) (e : Env) (ds : List Deferred) (d : Option Nat) (v : Value) : (actD n e ds).put d v = actD n (updO e d v) ds := by
  have h := act_put n e d v
  cases d with
  | none => rfl
  | some d => simp only [Act.put, act, actD, updO, Act.mk.injEq, and_true] at *; exact h
def JLi (ro : Option Nat) (ds : List Deferred) (P : Program) (ops : Array Oper) (Q : Exit → Act → World → Prop) (n : Nat) (w0 : World) (D : List Nat) (L : List Res) (l : List Oper) (e : Env) : Prop :=
  ∀ w, St w0 D L w → wpListIn (fenceR ro) 0 P ops Q l (actD n e ds) w
def JCi (ro : Option Nat) (ds : List Deferred) (P : Program) (Q : Exit → Act → World → Prop) (n : Nat) (w0 : World) (D : List Nat) (L : List Res) (c : Code) (e : Env) : Prop :=
  ∀ w, St w0 D L w → c.wpIn (fenceR ro) 0 P Q (actD n e ds) w
def JQi (ds : List Deferred) (Q : Exit → Act → World → Prop) (x : Exit) (n : Nat) (w0 : World) (D : List Nat) (L : List Res) (e : Env) : Prop :=
  ∀ w, St w0 D L w → Q x (actD n e ds) w
def plainO (o : Oper) : Bool := o.guard.isNone && (match o.op with | .defer _ => false | _ => true)
theorem JO.into {o : Oper} {Φ : Value → List Res → Prop} (hp : plainO o = true) (h : JO P n w0 D L e o Φ) {w : World} (hw : St w0 D L w) {K : Act → World → Prop} {Q : Exit → Act → World → Prop}
    (hK : ∀ v L' w', Φ v L' → St w0 D L' w' → K (actD n (updO e o.dst v) ds) w') : o.wpIn (fenceR ro) 0 P (actD n e ds) w K Q := by
  have h1 := h w hw (fun a w' => a.defers = [] ∧ K { a with defers := ds } w') (fun _ _ _ => False) (fun v L' w' hΦ hw' => ⟨rfl, hK v L' w' hΦ hw'⟩)
  have hsem : o.semAt (fenceR ro).round (actD n e ds).eval = execOp (act n e).eval o := by
    rw [actD_eval, act_eval', Oper.semAt_eq _ _ _ (fun c hc => by simp [plainO, hc] at hp)]
  unfold Oper.wp at h1
  unfold Oper.wpIn
  rw [hsem]
  refine ⟨fun _ _ => trivial, ?_⟩
  have hput : ∀ (u : Value), ({ (act n e).put o.dst u with defers := ds } : Act) = (actD n e ds).put o.dst u := fun u => by rw [act_put, actD_put]; rfl
  generalize (execOp (act n e).eval o).run P w = r at h1 ⊢
  cases r with
  | halt h w' => cases h <;> exact absurd h1 (by simp [Oper.upon])
  | ok v w' =>
    cases v with
    | value v => have := h1.2; rw [hput] at this; exact this
    | skip => have := h1.2; rw [hput] at this; exact this
    | defer d => exact absurd h1.1 (by cases o.dst <;> simp [Act.put])
    | enter f args =>
      refine ⟨fun h => by simp [fenceR, Fence.wide] at h, ?_⟩
      have h2 : CallsIn Fence.wide 0 P f args w' _ := callsIn_wide.2 h1
      refine CallsIn.mono (F := fenceR ro) (n := 0) h2 fun en w'' hen => ?_
      cases en with
      | returned v => have := hen.2; rw [hput] at this; exact this
      | panicked ch => exact hen.elim
      | outgrown => obtain ⟨_, _, h⟩ := hen; exact h.elim
    | row rw_ args =>
      refine ⟨fun h => by simp [fenceR, Fence.wide] at h, ?_⟩
      intro c cs _
      obtain ⟨v, w'', hR, hs⟩ := h1 c cs
      have := hR.2
      rw [hput] at this
      exact ⟨v, w'', this, stepsIn_wide.2 hs⟩
    | _ => exact h1.elim
theorem JLi.nil (h : JQi ds Q .normal n w0 D L e) : JLi ro ds P ops Q n w0 D L [] e := fun w hw => h w hw
theorem plainO_guard {o : Oper} (h : plainO o = true) : o.guard = none := by
  simp only [plainO, Bool.and_eq_true, Option.isNone_iff_eq_none] at h
  exact h.1
theorem JLi.op {o : Oper} {rest : List Oper} {Φ : Value → List Res → Prop} (hg : plainO o = true) (ho : JO P n w0 D L e o Φ)
    (h : ∀ v L', Φ v L' → JLi ro ds P ops Q n w0 D L' rest (updO e o.dst v)) : JLi ro ds P ops Q n w0 D L (o :: rest) e := fun w hw =>
  wpListIn_plain (plainO_guard hg) fun K hK => JO.into hg ho hw fun v L' w' hΦ hw' => hK _ _ (h v L' hΦ w' hw')
theorem JLi.pure {o : Oper} {rest : List Oper} {v : Value} (hg : plainO o = true) (ho : PO P n e o v)
    (h : JLi ro ds P ops Q n w0 D L rest (updO e o.dst v)) : JLi ro ds P ops Q n w0 D L (o :: rest) e :=
  JLi.op hg (JO.pure fun _ => ho) fun _ _ ⟨hv, hL⟩ => by subst hv; subst hL; exact h
theorem JLi.ld {o : Oper} {rest : List Oper} {v : Value} (hg : plainO o = true) (ho : LO P n w0 D L e o v)
    (h : JLi ro ds P ops Q n w0 D L rest (updO e o.dst v)) : JLi ro ds P ops Q n w0 D L (o :: rest) e :=
  JLi.op hg (JO.ofLO ho) fun _ _ ⟨hv, hL⟩ => by subst hv; subst hL; exact h
theorem JLi.facts {l : List Oper} (h : (∃ w, St w0 D L w) → JLi ro ds P ops Q n w0 D L l e) : JLi ro ds P ops Q n w0 D L l e := fun w hw => h ⟨w, hw⟩ w hw
theorem JCi.region {id : Nat} {l : List Oper} (h : JLi ro ds P l.toArray Q n w0 D L l e) : JCi ro ds P Q n w0 D L (.region id l.toArray false) e := fun w hw => wpIn_region_lit (h w hw)
theorem JCi.seq {x y : Code} (h : JCi ro ds P (Exit.then (y.wpIn (fenceR ro) 0 P Q) Q) n w0 D L x e) : JCi ro ds P Q n w0 D L (.seq x y) e := fun w hw => wpIn_seq (h w hw)
theorem JQi.seq {y : Code} (h : JCi ro ds P Q n w0 D L y e) : JQi ds (Exit.then (y.wpIn (fenceR ro) 0 P Q) Q) .normal n w0 D L e := fun w hw => h w hw
theorem JCi.skip (h : JQi ds Q .normal n w0 D L e) : JCi ro ds P Q n w0 D L .skip e := fun w hw => wpIn_skip (h w hw)
theorem JCi.ret (h : JQi ds Q .ret n w0 D L e) : JCi ro ds P Q n w0 D L .ret e := fun w hw => wpIn_ret (h w hw)
theorem JCi.block {id : Nat} {c : Code} (h : JCi ro ds P (Exit.inBlock id Q) n w0 D L c e) : JCi ro ds P Q n w0 D L (.block id c) e := fun w hw => wpIn_block (h w hw)
theorem JQi.blockN {id : Nat} (h : JQi ds Q .normal n w0 D L e) : JQi ds (Exit.inBlock id Q) .normal n w0 D L e := fun w hw => h w hw
theorem JCi.condT {c : Operand} {x y : Code} (hc : rd n e c = .bool true) (h : JCi ro ds P Q n w0 D L x e) : JCi ro ds P Q n w0 D L (.cond c x y) e := fun w hw => wpIn_cond_true (by rw [actD_eval]; exact hc) (h w hw)
theorem JCi.condF {c : Operand} {x y : Code} (hc : rd n e c = .bool false) (h : JCi ro ds P Q n w0 D L y e) : JCi ro ds P Q n w0 D L (.cond c x y) e := fun w hw => wpIn_cond_false (by rw [actD_eval]; exact hc) (h w hw)
/-- A region with a call of yield, in the plain walk. -/
theorem JC.regionI {id : Nat} {l : List Oper} (h : JLi none [] P l.toArray Q n w0 D L l e) : JC P Q n w0 D L (.region id l.toArray false) e := fun w hw => (wpIn_wide (n := 0)).1 (wpIn_region_lit (h w hw))
/-- One block turned for another. -/
theorem St.putObj {i b : Nat} {o : Obj} {w : World} (h : St w0 D L w) (hL : L[i]? = some (.blk b o)) (o' : Obj) : St w0 D (L.set i (.blk b o')) (w.putObj b o') := by
  have hb : w.heap[b]? = some o := h.get hL
  have hlt := (Array.getElem?_eq_some_iff.1 hb).1
  refine h.turn1 hL rfl rfl rfl (by simp) (fun k _ hk => ?_) (World.putObj_heap_same hlt) (by simp [Res.ids]) (fun i hi => .inl hi)
  simp only [Res.ids, List.mem_singleton] at hk
  exact World.putObj_heap_other hk
/-- What a round is told: it hands back 'go on' and leaves such resources. -/
def Round (P : Program) (l : Nat) (v : Value) (w0 : World) (D : List Nat) (L : List Res) (Ψ : List Res → Prop) : Prop :=
  ∀ w, St w0 D L w → ∃ fn tmps assign body, (Instr.yield l #[v]).run P w = .ok (.round l fn tmps assign body) w ∧
    RoundIn Fence.wide 0 P l fn tmps assign body w (fun en w' => en = .returned (.bool true) ∧ ∃ L', Ψ L' ∧ St w0 D L' w')
theorem JLi.yield {l : Nat} {v : Value} {x y : Operand} {ats : Array TypeId} {d : Option Tmp} {ty : TypeId} {pos : String} {aft : Array Edge} {rest : List Oper} {Ψ : List Res → Prop} (hx : rd n e x = .func (.yield l) #[] #[]) (hy : rd n e y = v)
    (hr : Round P l v w0 D L Ψ) (h : ∀ L', Ψ L' → JLi none ds P ops Q n w0 D L' rest (updO e d (.bool true))) :
    JLi none ds P ops Q n w0 D L (⟨d, .call ⟨.value x, #[y], ats⟩, ty, pos, aft, none⟩ :: rest) e := fun w hw => by
  refine wpListIn_plain rfl fun K hK => ?_
  obtain ⟨fn, tmps, assign, body, hyl, hR⟩ := hr w hw
  have hrun : (execOp (rd n e) ⟨d, .call ⟨.value x, #[y], ats⟩, ty, pos, aft, none⟩).run P w = .ok (.round l fn tmps assign body) w := by
    simp [execOp, resolve, Deferred.ofValue, hx, hy, invoke, hyl]
  unfold Oper.wpIn
  refine ⟨fun _ _ => trivial, ?_⟩
  rw [show (fenceR none).round = none from rfl, Oper.semAt_none, actD_eval, hrun]
  refine ⟨fun h => by simp [fenceR, Fence.wide] at h, RoundIn.mono (F := Fence.wide) (n := 0) hR fun en w' hen => ?_⟩
  obtain ⟨rfl, L', hΨ, hw'⟩ := hen
  show K _ _
  rw [actD_put]
  exact hK _ _ (h L' hΨ w' hw')
/-- The left side is set, the record is ready: the round begins; at its end the record is ready anew. -/
theorem JQi.begin {i l : Nat} {r : Loop} {R : Ending → World → Prop} {body : Code} {ff : Exit → Act → World → Prop} (hL : L[i]? = some (.blk l (.loop r))) (hs : r.state = .ready)
    (h : JCi (some l) [] P (roundPost P l R) n w0 D (L.set i (.blk l (.loop { r with state := .busy }))) body e) :
    JQi [] (Exit.then (fun a₁ w₁ => ∃ w₂, (Instr.beginRound l).run P w₁ = .ok () w₂ ∧ body.wpIn (Fence.wide.inRound l) 0 P (roundPost P l R) a₁ w₂) ff) .normal n w0 D L e := fun w hw =>
  ⟨_, run_beginRound (hw.get hL) hs, h _ (hw.putObj hL _)⟩
theorem loop_back {r : Loop} (hs : r.state = .ready) (hp : r.pending = none) : ({ ({ r with state := .busy } : Loop) with state := .ready, pending := none } : Loop) = r := by
  cases r
  simp_all
theorem JQi.endr {i l : Nat} {r : Loop} {Ψ : List Res → Prop} (hL : L[i]? = some (.blk l (.loop { r with state := .busy }))) (hs : r.state = .ready) (hp : r.pending = none) (h : Ψ (L.set i (.blk l (.loop r)))) :
    JQi [] (roundPost P l (fun en w' => en = .returned (.bool true) ∧ ∃ L', Ψ L' ∧ St w0 D L' w')) .normal n w0 D L e := fun w hw => by
  have h1 := hw.putObj hL (.loop r)
  have h2 := run_endRound (P := P) none (hw.get hL)
  refine ⟨_, _, h2, rfl, _, h, ?_⟩
  have e2 := loop_back hs hp
  simp only [Option.isNone_none, if_true]
  rw [e2]
  exact h1
theorem Round.of {i l t : Nat} {r : Loop} {v : Value} {Ψ : List Res → Prop} {assign body : Code} (hL : L[i]? = some (.blk l (.loop r))) (hp : r.params = #[t]) (ht : r.tmps = (act n e).tmps) (ha : r.assign = assign) (hb : r.body = body)
    (h : JCi (some l) [] P (Exit.then (fun a₁ w₁ => ∃ w₂, (Instr.beginRound l).run P w₁ = .ok () w₂ ∧ body.wpIn (Fence.wide.inRound l) 0 P (roundPost P l (fun en w' => en = .returned (.bool true) ∧ ∃ L', Ψ L' ∧ St w0 D L' w')) a₁ w₂) (fun _ _ _ => False)) n w0 D L assign (updO e (some t) v)) :
    Round P l v w0 D L Ψ := fun w hw => by
  refine ⟨r.fn, _, r.assign, r.body, run_yield (hw.get hL) (by rw [hp]; rfl), roundIn_of_wpIn trivial ?_⟩
  have e1 : (r.params.zip #[v]).foldl (fun tmps (t, a) => tmps.setIfInBounds t a) r.tmps = (actD n (updO e (some t) v) []).tmps := by
    have := congrArg Act.tmps (act_put n e (some t) v)
    rw [hp, ht]
    have h2 : (act n (updO e (some t) v)).tmps = (actD n (updO e (some t) v) []).tmps := rfl
    rw [← h2]
    simpa [Act.put] using this
  rw [e1, ha, hb]
  exact h w hw
theorem Round.swap {l : Nat} {v : Value} {B : List Res} {R : List Res → Prop} (h : Round P l v w0 D (L ++ B) (fun L' => ∃ L1, R L1 ∧ L' = L1 ++ B)) : Round P l v w0 D (B ++ L) (fun L' => ∃ L1, R L1 ∧ L' = B ++ L1) := fun w hw => by
  obtain ⟨fn, tmps, assign, body, hy, hR⟩ := h w (hw.perm List.perm_append_comm)
  refine ⟨fn, tmps, assign, body, hy, RoundIn.mono hR fun en w' hen => ?_⟩
  obtain ⟨rfl, L', ⟨L1, h1, rfl⟩, hw'⟩ := hen
  exact ⟨rfl, _, ⟨L1, h1, rfl⟩, hw'.perm List.perm_append_comm⟩
/-- Behind the statement, in what was begun as a plain walk. -/
theorem JQi.seqW {y : Code} (h : JCi none ds P Q n w0 D L y e) : JQi ds (Exit.then (y.wp P Q) Q) .normal n w0 D L e := fun w hw => (wpIn_wide (n := 0)).1 (h w hw)
theorem JQi.ofQ {x : Exit} (h : JQ Q x n w0 D L e) : JQi [] Q x n w0 D L e := h
theorem JQi.sub {x : Exit} {L' : List Res} (hL : L'.Sublist L) (h : JQi ds Q x n w0 D L' e) : JQi ds Q x n w0 D L e := fun w hw => h w (hw.sub hL)
/-- The statement. -/
def recOf (fn : FuncId) (tmps : Array Value) (ps : Array Tmp) (assign body : Code) (bd : Nat) : Loop := { state := .ready, pending := none, fn := fn, tmps := tmps, params := ps, assign := assign, body := body, defers := bd }
def markOf (bd : Nat) : Deferred := { target := .collected bd, args := #[] }
theorem rangeFuncC {g : Operand} {ps : Array Tmp} {assign body : Code} {gf : FuncId} {lb : List Value} (hg : rd n e g = .func (.func gf) #[] lb.toArray) (hc : ∀ args w, (callFunc gf args).run P w = .ok (.enter gf args) w)
    (h : ∀ (bd l : Nat) (rc : Loop), rc.state = .ready → rc.pending = none → rc.params = ps → rc.tmps = (act n e).tmps → rc.assign = assign → rc.body = body → ∃ (is : List Nat) (A F : List Res) (Pre : World → Prop) (Post : Value → List Res → Prop),
      pick is (.blk l (.loop rc) :: .blk bd (.deferred (some [])) :: L) = some (A, F) ∧ Ct P gf (.func (.yield l) #[] #[] :: lb) A Pre Post ∧
      (∀ w, St w0 D (.blk l (.loop rc) :: .blk bd (.deferred (some [])) :: L) w → Pre w) ∧
      ∀ v A', Post v A' → ∃ (j : Nat) (r : Loop), (A' ++ F)[j]? = some (.blk l (.loop r)) ∧ r.state = .ready ∧ r.pending = none ∧ JQi [markOf bd] Q .normal n w0 D ((A' ++ F).set j (.blk l (.loop { r with state := .exhausted }))) e) :
    JC P Q n w0 D L (.rangeFunc g ps assign body) e := fun w hw => (wpIn_wide (n := 0)).1 <| by
  refine wpIn_rangeFunc fun fn _ => ?_
  obtain ⟨is, A, F, Pre, Post, hp, hct, hpre, hpost⟩ := h w.heap.size (w.heap.size + 1) (recOf fn (act n e).tmps ps assign body w.heap.size) rfl rfl rfl rfl rfl rfl
  have s1 := hw.alloc (.deferred (some []))
  have s2 := s1.alloc (.loop (recOf fn (act n e).tmps ps assign body w.heap.size))
  rw [World.size_alloc] at s2
  have hperm := pick_perm is hp
  have hA : Has A _ := ((s2.perm hperm.symm).sub (List.sublist_append_left _ _)).toHas
  refine ⟨w.heap.size + 1, [markOf w.heap.size], (w.alloc (.deferred (some []))).alloc (.loop (recOf fn (act n e).tmps ps assign body w.heap.size)), { target := .fn (.func gf) lb.toArray, args := #[.func (.yield (w.heap.size + 1)) #[] #[]] }, (w.alloc (.deferred (some []))).alloc (.loop (recOf fn (act n e).tmps ps assign body w.heap.size)), gf,
    #[.func (.yield (w.heap.size + 1)) #[] #[]] ++ lb.toArray, (w.alloc (.deferred (some []))).alloc (.loop (recOf fn (act n e).tmps ps assign body w.heap.size)), ?_, ?_, fun _ _ => trivial, ?_, fun h => by simp [Fence.wide] at h, ?_⟩
  · exact run_enterLoop_outer _ _ _ _ _
  · have he : (act n e).eval g = .func (.func gf) #[] lb.toArray := by rw [act_eval]; exact hg
    simp only [resolve, rangeCall, Deferred.ofValue]
    rw [he]
    simp [go_sem]
  · simp [invoke, hc]
  · refine callsIn_wide.2 ?_
    have := hct _ hA (hpre _ s2)
    rw [show ((Value.func (.yield (w.heap.size + 1)) #[] #[] :: lb).toArray) = #[.func (.yield (w.heap.size + 1)) #[] #[]] ++ lb.toArray by simp] at this
    refine this.mono fun en w' hen => ?_
    obtain ⟨v, A', rfl, hq, hst⟩ := hen
    have s3 := s2.turn hperm hst.os hst.tape hst.output hst.size hst.keep hst.holds hst.nodup hst.fresh
    obtain ⟨j, r, hj, hs, hpd, hQ⟩ := hpost v A' hq
    refine ⟨none, _, (run_endLoop (s3.get hj) (by rw [hs]; simp)).trans (by rw [hpd]), hQ _ (s3.putObj hj _)⟩
/-- A function that holds one. -/
theorem Ct.introM {f : FuncId} {fn : Func} {c : Code} {args : List Value} {A : List Res} {Pre : World → Prop} {Post : Value → List Res → Prop}
    (hf : P.funcs[f]? = some fn) (hb : fn.body = some c) (hn : fn.ntmps = n) (hle : args.length ≤ n)
    (h : ∀ w0, Pre w0 → JC P (bodyPostM Fence.wide 0 P fn (Done w0 (idsOf A) Post)) n w0 (idsOf A) A c (argEnv args)) : Ct P f args A Pre Post := fun w hA hpre => by
  refine callsIn_wide.1 (callsIn_of_wp_marks (n := 0) hf hb trivial ((wpIn_wide (n := 0)).2 ?_))
  rw [hn, act_args n args hle]
  exact h w hpre w (St.start hA)
theorem JQi.retM {fn : Func} {Post : Value → List Res → Prop} {j bd : Nat} (hL : L[j]? = some (.blk bd (.deferred (some [])))) (h : JQ (bodyPost P fn (Done w0 D Post)) .ret n w0 D (L.set j (.blk bd (.deferred none))) e) :
    JQi [markOf bd] (bodyPostM Fence.wide 0 P fn (Done w0 D Post)) .ret n w0 D L e := fun w hw => by
  obtain ⟨_, v, hv, hd⟩ := h _ (hw.putObj hL (.deferred none))
  exact ⟨by simp, .inl ⟨bd, _, rfl, run_takeDeferred (hw.get hL), v, hv, hd⟩⟩
end
end Go.Proofs.YtjncpgcccgdeiaaGreatDoor

set_option linter.unusedSimpArgs false
set_option linter.unusedVariables false
set_option linter.unnecessarySimpa false
namespace Go.Proofs.YtjncpgcccgdeiaaGreatDoor
open Go Go.RowKit
attribute [local irreducible] JL JC JQ JO LO PO JA JX Ct JLi JCi JQi

set_option maxRecDepth 4000 in
set_option maxHeartbeats 1000000 in
theorem Y_iter (l : Nat) (J : List Str → List Res → Prop) (s : Str) (hs : s.length ≤ 100000000) (b1 b2 b3 : Nat) (L0 : List Res) (hround : ∀ (w0 : World) (D : List Nat) (B : List Res) (pre : List Str) (x : Str) (L : List Res), J pre L → Lib.hasSuffix x [10] = true → x.length ≤ 100000000 → pre.length ≤ 100000000 → Round Tryz.prog l (str x) w0 D (L ++ B) (fun L' => ∃ L1, J (pre ++ [x]) L1 ∧ L' = L1 ++ B)) (hlast : ∀ (w0 : World) (D : List Nat) (B : List Res) (pre : List Str) (x : Str) (L : List Res), J pre L → Lib.hasSuffix x [10] = false → x.length ≤ 100000000 → pre.length ≤ 100000000 → Round Tryz.prog l (str x) w0 D (L ++ B) (fun L' => ∃ L1, J pre L1 ∧ L' = L1 ++ B)) (h0 : J [] L0) :
    Ct Tryz.prog 162 [.func (.yield l) #[] #[], .pointer (some ⟨b1, 0, none⟩), .pointer (some ⟨b2, 0, none⟩), .pointer (some ⟨b3, 0, none⟩)] ([bk b1 9 [str [10]], bk b2 9 [str s], bk b3 3 [.int .i64 1]] ++ L0) (fun _ => True) (fun v A' => ∃ L1, J (linesOf s) L1 ∧ A' = L1) := by
  refine Ct.intro Tryz.func162 rfl Tryz.ntmps162 (Nat.le_of_ble_eq_true rfl) fun w0 hpre => ?_
  refine JC.seq ?_
  refine JC.seq ?_
  refine JC.region ?_
  refine JL.ld rfl (LO.load1 0 (v := str [10]) rfl rfl Tryz.isAgg9 rfl) ?_
  refine JL.pure rfl (show PO _ _ _ _ (.int .i64 ((1 : Nat) : Int)) from PO.lenS (a := [10]) Tryz.underlying9 rfl) ?_
  refine JL.pure rfl (PO.eqlI rfl rfl) ?_
  refine JL.nil ?_
  refine JQ.seq ?_
  have h_1 : ¬ (((1 : Nat) : Int) = 0) := (by decide)
  refine JC.condF (congrArg Value.bool (decide_eq_false h_1)) ?_
  refine JC.skip ?_
  refine JQ.seq ?_
  refine JC.seq ?_
  refine JC.block ?_
  refine JC.loop (fun k_ e_ L_ => ∃ pre : List Str, ∃ s_ : Str, ∃ LJ : List Res, (pre ++ linesOf s_ = linesOf s) ∧ (s_.length ≤ s.length) ∧ (J pre LJ) ∧ e_ 0 = .func (.yield l) #[] #[] ∧ e_ 1 = .pointer (some ⟨b1, 0, none⟩) ∧ e_ 2 = .pointer (some ⟨b2, 0, none⟩) ∧ e_ 3 = .pointer (some ⟨b3, 0, none⟩) ∧ L_ = ([bk b1 9 [str [10]], bk b2 9 [str s_], bk b3 3 [.int .i64 1]] ++ LJ) ∧ k_ = s_.length) _ ⟨[], s, L0, rfl, by omega, h0, rfl, rfl, rfl, rfl, rfl, rfl⟩ ?_
  rintro _ e_2 _ ⟨pre, s_, LJ, hR, hl_, hJ, he_3, he_4, he_5, he_6, rfl, rfl⟩
  refine JC.block ?_
  refine JC.seq ?_
  refine JC.region ?_
  refine JL.ld rfl (LO.load1 1 (v := str s_) rfl he_5 Tryz.isAgg9 rfl) ?_
  refine JL.ld rfl (LO.load1 0 (v := str [10]) rfl he_4 Tryz.isAgg9 rfl) ?_
  refine JL.op rfl (JO.call [] Tryz.call164 rfl (C_ix s_ 10) rfl (fun _ _ => trivial)) ?_
  rintro _ _ ⟨_, ⟨rfl, (⟨rfl, hn_11⟩ | ⟨i_7, rfl, hi_8, hf_9, hc_10⟩)⟩, rfl⟩
  · skip
    refine JL.pure rfl (PO.assign (v := .int .i64 (-1)) rfl) ?_
    refine JL.nil ?_
    refine JQ.seq ?_
    refine JC.seq ?_
    refine JC.seq ?_
    refine JC.region ?_
    refine JL.pure rfl (PO.move (v := .int .i64 (-1)) rfl) ?_
    refine JL.pure rfl (PO.lss rfl rfl) ?_
    refine JL.nil ?_
    refine JQ.seq ?_
    have h_12 : (-1) < 0 := (by decide)
    refine JC.condT (congrArg Value.bool (decide_eq_true h_12)) ?_
    refine JC.exit ?_
    refine JQ.thenExit ?_
    refine JQ.blockO rfl ?_
    refine JQ.thenExit ?_
    refine JQ.blockE ?_
    refine JQ.seq ?_
    refine JC.regionI ?_
    refine JLi.pure rfl (PO.move (v := .func (.yield l) #[] #[]) he_3) ?_
    refine JLi.ld rfl (LO.load1 1 (v := str s_) rfl he_5 Tryz.isAgg9 rfl) ?_
    refine JLi.yield (Ψ := fun L_ => ∃ L1, J (pre) L1 ∧ L_ = [bk b1 9 [str [10]], bk b2 9 [str s_], bk b3 3 [.int .i64 1]] ++ L1) rfl rfl (Round.swap (hlast _ _ _ pre s_ LJ hJ (suffix_none hn_11) (by omega) (by have h_ := congrArg List.length hR; have h2_ := linesG_len s []; simp only [List.length_append, linesOf] at *; omega))) ?_
    rintro _ ⟨LJ_13, hJ_14, rfl⟩
    refine JLi.nil ?_
    refine JQi.ofQ ?_
    refine Done.none (A' := LJ_13) (.inr rfl) rfl (List.sublist_append_right _ _) ?_
    exact ⟨LJ_13, by rw [lines_no hn_11, List.append_nil] at hR; rw [← hR]; exact hJ_14, rfl⟩
  · skip
    refine JL.pure rfl (PO.assign (v := .int .i64 ((i_7 : Nat) : Int)) rfl) ?_
    refine JL.nil ?_
    refine JQ.seq ?_
    refine JC.seq ?_
    refine JC.seq ?_
    refine JC.region ?_
    refine JL.pure rfl (PO.move (v := .int .i64 ((i_7 : Nat) : Int)) rfl) ?_
    refine JL.pure rfl (PO.lss rfl rfl) ?_
    refine JL.nil ?_
    refine JQ.seq ?_
    have h_15 : ¬ (((i_7 : Nat) : Int) < 0) := (by omega)
    refine JC.condF (congrArg Value.bool (decide_eq_false h_15)) ?_
    refine JC.skip ?_
    refine JQ.seq ?_
    refine JC.seq ?_
    refine JC.region ?_
    refine JL.ld rfl (LO.load1 1 (v := str s_) rfl he_5 Tryz.isAgg9 rfl) ?_
    refine JL.pure rfl (PO.move (v := .int .i64 ((i_7 : Nat) : Int)) rfl) ?_
    refine JL.ld rfl (LO.load1 2 (v := .int .i64 1) rfl he_6 Tryz.isAgg3 rfl) ?_
    refine JL.pure rfl (PO.add (c := ((i_7 + 1 : Nat) : Int)) rfl rfl (wr (by omega))) ?_
    refine JL.pure rfl (PO.sliceSh (j := (i_7 + 1)) Tryz.underlying9 rfl rfl (by omega)) ?_
    refine JL.pure rfl (PO.assign (v := str (s_.take (i_7 + 1))) rfl) ?_
    refine JL.nil ?_
    refine JQ.seq ?_
    refine JC.seq ?_
    refine JC.seq ?_
    refine JC.regionI ?_
    refine JLi.pure rfl (PO.move (v := .func (.yield l) #[] #[]) he_3) ?_
    refine JLi.pure rfl (PO.move (v := str (s_.take (i_7 + 1))) rfl) ?_
    refine JLi.yield (Ψ := fun L_ => ∃ L1, J (pre ++ [s_.take (i_7 + 1)]) L1 ∧ L_ = [bk b1 9 [str [10]], bk b2 9 [str s_], bk b3 3 [.int .i64 1]] ++ L1) rfl rfl (Round.swap (hround _ _ _ pre (s_.take (i_7 + 1)) LJ hJ (suffix_line hi_8 hc_10) (by rw [List.length_take]; omega) (by have h_ := congrArg List.length hR; have h2_ := linesG_len s []; simp only [List.length_append, linesOf] at *; omega))) ?_
    rintro _ ⟨LJ_16, hJ_17, rfl⟩
    refine JLi.pure rfl (PO.not rfl) ?_
    refine JLi.nil ?_
    refine JQi.ofQ ?_
    refine JQ.seq ?_
    refine JC.condF (congrArg Value.bool rfl) ?_
    refine JC.skip ?_
    refine JQ.seq ?_
    refine JC.region ?_
    refine JL.ld rfl (LO.load1 1 (v := str s_) rfl he_5 Tryz.isAgg9 rfl) ?_
    refine JL.pure rfl (PO.move (v := .int .i64 ((i_7 : Nat) : Int)) rfl) ?_
    refine JL.ld rfl (LO.load1 0 (v := str [10]) rfl he_4 Tryz.isAgg9 rfl) ?_
    refine JL.pure rfl (show PO _ _ _ _ (.int .i64 ((1 : Nat) : Int)) from PO.lenS (a := [10]) Tryz.underlying9 rfl) ?_
    refine JL.pure rfl (PO.add (c := ((i_7 + 1 : Nat) : Int)) rfl rfl (wr (by omega))) ?_
    refine JL.pure rfl (PO.sliceSl (i := (i_7 + 1)) Tryz.underlying9 rfl rfl (by omega)) ?_
    refine JL.op rfl (JO.store 1 (vs := [str (s_.drop (i_7 + 1))]) (cs' := [str (s_.drop (i_7 + 1))]) rfl he_5 rfl rfl Tryz.sizeOf9 rfl rfl (Nat.le_of_ble_eq_true rfl) rfl) ?_
    rintro _ _ rfl
    refine JL.nil ?_
    refine JQ.blockN ?_
    have hdl_ : (s_.drop (i_7 + 1)).length = s_.length - (i_7 + 1) := List.length_drop
    refine JQ.again ((s_.drop (i_7 + 1)).length) (by omega) ⟨(pre ++ [s_.take (i_7 + 1)]), s_.drop (i_7 + 1), LJ_16, (by rw [List.append_assoc]; rw [lines_first hi_8 hf_9 hc_10] at hR; exact hR), (by rw [List.length_drop]; omega), hJ_17, he_3, he_4, he_5, he_6, rfl, rfl⟩

theorem Y_sseq (s : Str) :
    Ct Tryz.prog 142 [str s, str [10], .int .i64 1] [] (fun _ => True) (fun v A' => ∃ b1 b2 b3 : Nat, v = .func (.func 162) #[] #[.pointer (some ⟨b1, 0, none⟩), .pointer (some ⟨b2, 0, none⟩), .pointer (some ⟨b3, 0, none⟩)] ∧ A' = [bk b1 9 [str [10]], bk b2 9 [str s], bk b3 3 [.int .i64 1]]) := by
  refine Ct.intro Tryz.func142 rfl Tryz.ntmps142 (Nat.le_of_ble_eq_true rfl) fun w0 hpre => ?_
  refine JC.seq ?_
  refine JC.region ?_
  refine JL.op rfl (JO.box (cs := [str s]) rfl rfl) ?_
  rintro _ _ ⟨b_1, rfl, rfl⟩
  refine JL.op rfl (JO.box (cs := [str [10]]) rfl rfl) ?_
  rintro _ _ ⟨b_2, rfl, rfl⟩
  refine JL.op rfl (JO.box (cs := [.int .i64 1]) rfl rfl) ?_
  rintro _ _ ⟨b_3, rfl, rfl⟩
  refine JL.pure rfl (PO.assign (v := .nilFunc) rfl) ?_
  refine JL.nil ?_
  refine JQ.seq ?_
  refine JC.seq ?_
  refine JC.region ?_
  refine JL.pure rfl (PO.makeFunc (fv := []) (cv := [.pointer (some ⟨b_2, 0, none⟩), .pointer (some ⟨b_1, 0, none⟩), .pointer (some ⟨b_3, 0, none⟩)]) rfl rfl) ?_
  refine JL.pure rfl (PO.assign (v := .func (.func 162) #[] #[.pointer (some ⟨b_2, 0, none⟩), .pointer (some ⟨b_1, 0, none⟩), .pointer (some ⟨b_3, 0, none⟩)]) rfl) ?_
  refine JL.nil ?_
  refine JQ.seq ?_
  refine JC.ret ?_
  refine JQ.perm (pick_perm [1, 1, 0] (A := [bk b_2 9 [str [10]], bk b_1 9 [str s], bk b_3 3 [.int .i64 1]]) (F := []) rfl).symm ?_
  refine Done.one (.inl rfl) rfl (RV.tmp (v := .func (.func 162) #[] #[.pointer (some ⟨b_2, 0, none⟩), .pointer (some ⟨b_1, 0, none⟩), .pointer (some ⟨b_3, 0, none⟩)]) rfl) (List.sublist_append_left [bk b_2 9 [str [10]], bk b_1 9 [str s], bk b_3 3 [.int .i64 1]] []) ?_
  exact ⟨b_2, b_1, b_3, rfl, rfl⟩

theorem Y_saft (s : Str) :
    Ct Tryz.prog 110 [str s, str [10]] [] (fun _ => True) (fun v A' => ∃ b1 b2 b3 : Nat, v = .func (.func 162) #[] #[.pointer (some ⟨b1, 0, none⟩), .pointer (some ⟨b2, 0, none⟩), .pointer (some ⟨b3, 0, none⟩)] ∧ A' = [bk b1 9 [str [10]], bk b2 9 [str s], bk b3 3 [.int .i64 1]]) := by
  refine Ct.intro Tryz.func110 rfl Tryz.ntmps110 (Nat.le_of_ble_eq_true rfl) fun w0 hpre => ?_
  refine JC.seq ?_
  refine JC.region ?_
  refine JL.pure rfl (PO.assign (v := .nilFunc) rfl) ?_
  refine JL.nil ?_
  refine JQ.seq ?_
  refine JC.seq ?_
  refine JC.region ?_
  refine JL.pure rfl (PO.move (v := str s) rfl) ?_
  refine JL.pure rfl (PO.move (v := str [10]) rfl) ?_
  refine JL.pure rfl (PO.move (v := str [10]) rfl) ?_
  refine JL.pure rfl (show PO _ _ _ _ (.int .i64 ((1 : Nat) : Int)) from PO.lenS (a := [10]) Tryz.underlying9 rfl) ?_
  refine JL.op rfl (JO.call [] Tryz.call142 rfl (Y_sseq s) rfl (fun _ _ => trivial)) ?_
  rintro _ _ ⟨_, ⟨b_1, b_2, b_3, rfl, rfl⟩, rfl⟩
  refine JL.pure rfl (PO.assign (v := .func (.func 162) #[] #[.pointer (some ⟨b_1, 0, none⟩), .pointer (some ⟨b_2, 0, none⟩), .pointer (some ⟨b_3, 0, none⟩)]) rfl) ?_
  refine JL.nil ?_
  refine JQ.seq ?_
  refine JC.ret ?_
  refine Done.one (.inl rfl) rfl (RV.tmp (v := .func (.func 162) #[] #[.pointer (some ⟨b_1, 0, none⟩), .pointer (some ⟨b_2, 0, none⟩), .pointer (some ⟨b_3, 0, none⟩)]) rfl) (List.Sublist.refl _) ?_
  exact ⟨b_1, b_2, b_3, rfl, rfl⟩

set_option maxRecDepth 4000 in
set_option maxHeartbeats 1000000 in
theorem Y_iLines (s : Str) (hs : s.length ≤ 100000000) :
    Ct Tryz.prog 63 [str s] [] (fun _ => True) (fun v A' => ∃ a c, v = .slice a (linesOf s).length c ∧ A' = [.row (.slice a (linesOf s).length c) 9 1 (linesOf s).length ((linesOf s).map str)]) := by
  refine Ct.introM Tryz.func63 rfl Tryz.ntmps63 (Nat.le_of_ble_eq_true rfl) fun w0 hpre => ?_
  refine JC.seq ?_
  refine JC.region ?_
  refine JL.pure rfl (PO.assign (v := .slice none 0 0) rfl) ?_
  refine JL.nil ?_
  refine JQ.seq ?_
  refine JC.seq ?_
  refine JC.region ?_
  refine JL.op rfl (JO.alloc (z := .slice none 0 0) (cs := [.slice none 0 0]) Tryz.zeroValue71 rfl) ?_
  rintro _ _ ⟨b_1, rfl, rfl⟩
  refine JL.nil ?_
  refine JQ.seq ?_
  refine JC.seq ?_
  refine JC.seq ?_
  refine JC.region ?_
  refine JL.pure rfl (PO.move (v := str s) rfl) ?_
  refine JL.op rfl (JO.call [] Tryz.call110 rfl (Y_saft s) rfl (fun _ _ => trivial)) ?_
  rintro _ _ ⟨_, ⟨b_2, b_3, b_4, rfl, rfl⟩, rfl⟩
  refine JL.nil ?_
  refine JQ.seq ?_
  refine JC.block ?_
  refine JC.nilRow 9 1 ?_
  refine rangeFuncC (gf := 162) (lb := [.pointer (some ⟨b_2, 0, none⟩), .pointer (some ⟨b_3, 0, none⟩), .pointer (some ⟨b_4, 0, none⟩)]) rfl Tryz.call162 ?_
  intro bd_ l_ rc hst hpd hps htm has hbd
  refine ⟨[3, 3, 3, 0, 2, 1], _, _, _, _, rfl, Y_iter l_ (fun pre L => ∃ a c, L = [.blk l_ (.loop rc), bk b_1 71 [.slice a pre.length c], .row (.slice a pre.length c) 9 1 pre.length (pre.map str)]) s hs b_2 b_3 b_4 _ ?_ ?_ ⟨none, 0, rfl⟩, fun _ _ => trivial, ?_⟩
  · skip
    rintro w0 D B pre x _ ⟨a_, c_, rfl⟩ hx hxl hpl
    refine Round.of (i := 0) rfl hps htm has hbd ?_
    refine JCi.region ?_
    refine JLi.pure rfl (PO.assign (v := str x) rfl) ?_
    refine JLi.nil ?_
    refine JQi.begin (i := 0) rfl hst ?_
    refine JCi.block ?_
    refine JCi.seq ?_
    refine JCi.region ?_
    refine JLi.pure rfl (PO.move (v := str x) rfl) ?_
    refine JLi.op rfl (JO.call [] Tryz.call111 rfl (C_sfx x [10] (by omega)) rfl (fun _ _ => trivial)) ?_
    rintro _ _ ⟨_, ⟨rfl, rfl⟩, rfl⟩
    refine JLi.nil ?_
    refine JQi.seq ?_
    refine JCi.condT (congrArg Value.bool hx) ?_
    refine JCi.region ?_
    refine JLi.ld rfl (LO.load1 1 (v := .slice a_ pre.length c_) rfl rfl Tryz.isAgg71 rfl) ?_
    refine JLi.pure rfl (PO.move (v := str x) rfl) ?_
    refine JLi.op rfl (JO.buildSlice (ps := [(0, str x)]) (cur := #[str x]) Tryz.underlying71 Tryz.sizeOf9 Tryz.zeroValue9 rfl (by kernel_rfl) (by decide) (by decide)) ?_
    rintro _ _ ⟨a_5, rfl, rfl⟩
    refine JLi.op rfl (JO.append' 3 (q := 1) (news := ([x] : List Str).map str) (n' := (pre ++ ([x] : List Str)).length) (cs' := (pre ++ ([x] : List Str)).map str) rfl Tryz.underlying71 Tryz.underlying71 Tryz.typeInfo9 rfl (by' := 16) rfl rfl rfl rfl rfl (fun w hw => Src.sees (hw.see (i := 0) rfl) (oneS _)) (by (try simp only [List.length_append, List.length_cons, List.length_nil, List.length_take, List.length_drop]); omega) (by (try simp only [List.length_append, List.length_cons, List.length_nil, List.length_take, List.length_drop]); omega) (by simp only [List.length_append, List.length_take, List.length_drop, List.length_cons, List.length_nil] <;> first | rfl | omega) (by simp only [List.map_append])) ?_
    rintro _ _ ⟨a_6, c_7, rfl, rfl⟩
    refine JLi.op rfl (JO.store 2 (vs := [.slice a_6 ((pre ++ ([x] : List Str)).length) c_7]) (cs' := [.slice a_6 ((pre ++ ([x] : List Str)).length) c_7]) rfl rfl rfl rfl Tryz.sizeOf71 rfl rfl (Nat.le_of_ble_eq_true rfl) rfl) ?_
    rintro _ _ rfl
    refine JLi.nil ?_
    refine JQi.blockN ?_
    refine JQi.sub (L' := ([.blk l_ (.loop { rc with state := .busy }), bk b_1 71 [.slice a_6 ((pre ++ ([x] : List Str)).length) c_7], rS a_6 c_7 (pre ++ ([x] : List Str))] ++ B)) (.cons _ (List.Sublist.refl _)) ?_
    exact JQi.endr (i := 0) rfl hst hpd ⟨_, ⟨a_6, c_7, rfl⟩, rfl⟩
  · skip
    rintro w0 D B pre x _ ⟨a_, c_, rfl⟩ hx hxl hpl
    refine Round.of (i := 0) rfl hps htm has hbd ?_
    refine JCi.region ?_
    refine JLi.pure rfl (PO.assign (v := str x) rfl) ?_
    refine JLi.nil ?_
    refine JQi.begin (i := 0) rfl hst ?_
    refine JCi.block ?_
    refine JCi.seq ?_
    refine JCi.region ?_
    refine JLi.pure rfl (PO.move (v := str x) rfl) ?_
    refine JLi.op rfl (JO.call [] Tryz.call111 rfl (C_sfx x [10] (by omega)) rfl (fun _ _ => trivial)) ?_
    rintro _ _ ⟨_, ⟨rfl, rfl⟩, rfl⟩
    refine JLi.nil ?_
    refine JQi.seq ?_
    refine JCi.condF (congrArg Value.bool hx) ?_
    refine JCi.skip ?_
    refine JQi.blockN ?_
    exact JQi.endr (i := 0) rfl hst hpd ⟨_, ⟨a_, c_, rfl⟩, rfl⟩
  · skip
    rintro _ _ ⟨_, ⟨a_, c_, rfl⟩, rfl⟩
    refine ⟨0, rc, rfl, hst, hpd, ?_⟩
    refine JQi.blockN ?_
    refine JQi.seqW ?_
    refine JCi.seq ?_
    refine JCi.region ?_
    refine JLi.ld rfl (LO.load1 1 (v := .slice a_ ((linesOf s).length) c_) rfl rfl Tryz.isAgg71 rfl) ?_
    refine JLi.pure rfl (PO.assign (v := .slice a_ ((linesOf s).length) c_) rfl) ?_
    refine JLi.nil ?_
    refine JQi.seq ?_
    refine JCi.ret ?_
    refine JQi.retM (j := 3) rfl ?_
    refine Done.one (A' := [rS a_ c_ (linesOf s)]) (.inl rfl) rfl (RV.tmp (v := .slice a_ ((linesOf s).length) c_) rfl) (.cons _ (.cons _ (.cons_cons _ (.cons _ .slnil)))) ?_
    exact ⟨a_, c_, rfl, rfl⟩

end Go.Proofs.YtjncpgcccgdeiaaGreatDoor

set_option linter.unusedSimpArgs false
set_option linter.unusedVariables false
set_option linter.unnecessarySimpa false
namespace Go.Proofs.YtjncpgcccgdeiaaGreatDoor
open Go Go.RowKit
structure RT where
  cells : List Cell
structure RA where
  a0 : Option Addr
  c0 : Nat
structure RX where
  x : RA
  t : RT
def encR (p : RX) : List Value := [.slice p.x.a0 p.t.cells.length p.x.c0]
def rdsR (p : RX) : List RD := [⟨.slice p.x.a0 p.t.cells.length p.x.c0, 48, 2, p.t.cells.length, p.t.cells.flatMap encC⟩]
theorem encR_len (p : RX) : (encR p).length = 1 := rfl
def r0 : RX := ⟨⟨none, 0⟩, ⟨[]⟩⟩
theorem oneR (l : List RX) : ∀ u ∈ l.flatMap encR, u.oneCell' = true := flat_one (fun c u hu => by
  simp only [encR, List.mem_cons, List.not_mem_nil, or_false] at hu
  rcases hu with rfl <;> rfl) l
theorem seesR {w : World} {p : RX} (h : SeesA w (rdsR p)) : Sees w (.slice p.x.a0 p.t.cells.length p.x.c0) 2 p.t.cells.length (p.t.cells.flatMap encC) := h.head
def rdsRS (a : Option Addr) (c : Nat) (l : List RX) : List RD := ⟨.slice a l.length c, 49, 1, l.length, l.flatMap encR⟩ :: l.flatMap rdsR
def cellsR (p : RX) : List Cell := p.t.cells
section
variable {f : Int} {m n i : Nat} {L : List Str} {A : List (List Cell)} {R : List (List Cell) × Nat}
theorem recsG_step (h : i < L.length) : recsG f m (L.drop i) =
    if (readI (L.getD i [])).2.2 = false then ([], 0)
    else if m = 0 ∧ (readI (L.getD i [])).1 < f then ((recsG f m (L.drop (i + 1))).1, (L.getD i []).length + (recsG f m (L.drop (i + 1))).2)
    else if (readI (L.getD i [])).1 = f + ((m : Nat) : Int) then ((readI (L.getD i [])).2.1 :: (recsG f (m + 1) (L.drop (i + 1))).1, (L.getD i []).length + (recsG f (m + 1) (L.drop (i + 1))).2)
    else ([], 0) := by
  rw [drop_at (getD_some (d := []) h), recsG]
theorem recs_skip (h : i < L.length) (ho : (readI (L.getD i [])).2.2 = true) (hc : m = 0 ∧ (readI (L.getD i [])).1 < f) (hR : R = (A ++ (recsG f m (L.drop i)).1, n + (recsG f m (L.drop i)).2)) :
    R = (A ++ (recsG f m (L.drop (i + 1))).1, (n + (L.getD i []).length) + (recsG f m (L.drop (i + 1))).2) := by
  rw [recsG_step h, if_neg (by rw [ho]; decide), if_pos hc] at hR
  rw [hR, Nat.add_assoc]
theorem recs_take (h : i < L.length) (ho : (readI (L.getD i [])).2.2 = true) (hc : (readI (L.getD i [])).1 = f + ((m : Nat) : Int)) (hR : R = (A ++ (recsG f m (L.drop i)).1, n + (recsG f m (L.drop i)).2)) :
    R = ((A ++ [(readI (L.getD i [])).2.1]) ++ (recsG f (m + 1) (L.drop (i + 1))).1, (n + (L.getD i []).length) + (recsG f (m + 1) (L.drop (i + 1))).2) := by
  rw [recsG_step h, if_neg (by rw [ho]; decide), if_neg (by omega), if_pos hc] at hR
  rw [hR, Nat.add_assoc, List.append_assoc]
  rfl
theorem recs_bad (h : i < L.length) (ho : (readI (L.getD i [])).2.2 = false) (hR : R = (A ++ (recsG f m (L.drop i)).1, n + (recsG f m (L.drop i)).2)) : R = (A, n) := by
  rw [recsG_step h, if_pos ho] at hR
  rw [hR, List.append_nil]
  rfl
theorem recs_stop (h : i < L.length) (ho : (readI (L.getD i [])).2.2 = true) (hc : ¬ (m = 0 ∧ (readI (L.getD i [])).1 < f)) (he : ¬ (readI (L.getD i [])).1 = f + ((m : Nat) : Int)) (hR : R = (A ++ (recsG f m (L.drop i)).1, n + (recsG f m (L.drop i)).2)) : R = (A, n) := by
  rw [recsG_step h, if_neg (by rw [ho]; decide), if_neg hc, if_neg he] at hR
  rw [hR, List.append_nil]
  rfl
theorem recs_end (h : L.length ≤ i) (hR : R = (A ++ (recsG f m (L.drop i)).1, n + (recsG f m (L.drop i)).2)) : R = (A, n) := by
  rw [List.drop_of_length_le h, recsG] at hR
  rw [hR, List.append_nil]
  rfl
theorem sumLen_step (h : i < L.length) : sumLen (L.drop i) = (L.getD i []).length + sumLen (L.drop (i + 1)) := by
  rw [drop_at (getD_some (d := []) h)]
  rfl
end
end Go.Proofs.YtjncpgcccgdeiaaGreatDoor

set_option linter.unusedSimpArgs false
set_option linter.unusedVariables false
set_option linter.unnecessarySimpa false
namespace Go.Proofs.YtjncpgcccgdeiaaGreatDoor
open Go Go.RowKit
attribute [local irreducible] JL JC JQ JO LO PO JA JX Ct

set_option maxRecDepth 4000 in
set_option maxHeartbeats 1000000 in
theorem Y_iRecs (t : Str) (f : Int) (ht : t.length ≤ 100000000) :
    Ct Tryz.prog 70 [str t, .int .i64 f] [] (fun w => HexOk w) (fun v A' => ∃ a c y, y.map cellsR = (recsOf t f).1 ∧ v = .tuple #[.slice a y.length c, .int .i64 (((recsOf t f).2 : Nat) : Int)] ∧ A' = [.rows (rdsRS a c y)]) := by
  refine Ct.introL Tryz.func70 rfl Tryz.ntmps70 (Nat.le_of_ble_eq_true rfl) fun w0 hpre hlow => ?_
  refine JC.seq ?_
  refine JC.region ?_
  refine JL.pure rfl (PO.assign (v := .slice none 0 0) rfl) ?_
  refine JL.pure rfl (PO.assign (v := .int .i64 0) rfl) ?_
  refine JL.nil ?_
  refine JQ.seq ?_
  refine JC.seq ?_
  refine JC.seq ?_
  refine JC.region ?_
  refine JL.pure rfl (PO.move (v := .int .i64 f) rfl) ?_
  refine JL.op rfl (JO.call [] Tryz.call76 rfl (Y_within f 1 100000) rfl (fun _ _ => trivial)) ?_
  rintro _ _ ⟨_, ⟨rfl, rfl⟩, rfl⟩
  refine JL.pure rfl (PO.not rfl) ?_
  refine JL.nil ?_
  refine JQ.seq ?_
  rcases Bool.eq_false_or_eq_true (within 1 f 100000) with h_1 | h_1
  · skip
    refine JC.condF (congrArg Value.bool (congrArg Bool.not h_1)) ?_
    refine JC.skip ?_
    refine JQ.seq ?_
    refine JC.seq ?_
    have hwi := h_1
    have hwj := (show 1 ≤ f ∧ f ≤ 100000 by simpa only [within, Bool.and_eq_true, decide_eq_true_eq] using hwi)
    have hll : (linesOf t).length ≤ t.length := linesG_len t []
    refine JC.region ?_
    refine JL.pure rfl (PO.assign (v := .slice none 0 0) rfl) ?_
    refine JL.nil ?_
    refine JQ.seq ?_
    refine JC.seq ?_
    refine JC.region ?_
    refine JL.pure rfl (PO.assign (v := .int .i64 0) rfl) ?_
    refine JL.nil ?_
    refine JQ.seq ?_
    refine JC.seq ?_
    refine JC.seq ?_
    refine JC.region ?_
    refine JL.pure rfl (PO.move (v := str t) rfl) ?_
    refine JL.op rfl (JO.call [] Tryz.call63 rfl (Y_iLines t (by omega)) rfl (fun _ _ => trivial)) ?_
    rintro _ _ ⟨_, ⟨a_2, c_3, rfl, rfl⟩, rfl⟩
    refine JL.pure rfl (PO.lenV Tryz.underlying71 rfl) ?_
    refine JL.pure rfl (PO.move (v := .int .i64 0) rfl) ?_
    refine JL.nil ?_
    refine JQ.seq ?_
    refine JC.block ?_
    refine JC.nilRow 49 1 ?_
    refine JC.ghost (L' := [Res.rows (([] : List RX).flatMap rdsR), Res.row (.slice none 0 0) 49 1 0 (([] : List RX).flatMap encR), rS a_2 c_3 (linesOf t)]) (fun w hw => hw.nilR (α := RX) (f := rdsR) [0] (B := [Res.row (.slice none 0 0) 49 1 0 (([] : List RX).flatMap encR)]) (F := [rS a_2 c_3 (linesOf t)]) rfl) ?_
    refine JC.loop (fun k_ e_ L_ => ∃ i : Nat, ∃ n : Nat, ∃ ya : Option Addr, ∃ yc : Nat, ∃ y : List RX, (i ≤ (linesOf t).length) ∧ (y.length ≤ i) ∧ (n + sumLen ((linesOf t).drop i) ≤ t.length) ∧ (recsOf t f = (y.map cellsR ++ (recsG f y.length ((linesOf t).drop i)).1, n + (recsG f y.length ((linesOf t).drop i)).2)) ∧ e_ 1 = .int .i64 f ∧ e_ 4 = .slice none 0 0 ∧ e_ 5 = .int .i64 0 ∧ e_ 6 = .slice ya y.length yc ∧ e_ 7 = .int .i64 ((n : Nat) : Int) ∧ e_ 18 = .slice a_2 ((linesOf t).length) c_3 ∧ e_ 19 = .int .i64 (((linesOf t).length : Nat) : Int) ∧ e_ 20 = .int .i64 ((i : Nat) : Int) ∧ L_ = [Res.rows (y.flatMap rdsR), Res.row (.slice ya y.length yc) 49 1 y.length (y.flatMap encR), rS a_2 c_3 (linesOf t)] ∧ k_ = (linesOf t).length - i) _ ⟨0, 0, none, 0, [], by omega, by simp, (by have h_ := linesG_sum t []; simp only [List.length_nil, Nat.zero_add, List.drop_zero] at *; exact h_), (by rw [recsOf, if_pos hwi]; simp), rfl, rfl, rfl, rfl, rfl, rfl, rfl, rfl, rfl, rfl⟩ ?_
    rintro _ e_4 _ ⟨i, n, ya, yc, y, hi, hyl, hn, hR, he_5, he_6, he_7, he_8, he_9, he_10, he_11, he_12, rfl, rfl⟩
    refine JC.seq ?_
    refine JC.region ?_
    refine JL.pure rfl (PO.lss he_12 he_11) ?_
    refine JL.nil ?_
    refine JQ.seq ?_
    refine JC.seq ?_
    by_cases h_13 : ((i : Nat) : Int) < (((linesOf t).length : Nat) : Int)
    · skip
      have hlt : i < (linesOf t).length := by omega
      have hml : ((linesOf t).getD i []).length ≤ 0 + t.length := linesG_mem t [] _ (getD_mem (d := []) hlt)
      have hsl : sumLen ((linesOf t).drop i) = ((linesOf t).getD i []).length + sumLen ((linesOf t).drop (i + 1)) := sumLen_step hlt
      refine JC.condT (congrArg Value.bool (decide_eq_true h_13)) ?_
      refine JC.skip ?_
      refine JQ.seq ?_
      refine JC.seq ?_
      refine JC.block ?_
      refine JC.seq ?_
      refine JC.region ?_
      refine JL.facts fun hst => ?_
      obtain ⟨hr_14, hr_14b, -⟩ := row_some 2 rfl (by omega) hst
      refine JL.pure rfl (PO.indexAddrV (i := i) Tryz.underlying71 Tryz.sizeOf9 hr_14 hr_14b he_10 he_12 (by omega)) ?_
      refine JL.ld rfl (LO.loadR1 2 (v := str ((linesOf t).getD i [])) rfl rfl Tryz.isAgg9 (atS (by omega))) ?_
      refine JL.pure rfl (PO.assign (v := str ((linesOf t).getD i [])) rfl) ?_
      refine JL.nil ?_
      refine JQ.seq ?_
      refine JC.seq ?_
      refine JC.region ?_
      refine JL.pure rfl (PO.move (v := str ((linesOf t).getD i [])) rfl) ?_
      refine JL.op rfl (JO.call [] Tryz.call64 rfl (Y_iRead ((linesOf t).getD i []) (by omega)) rfl (fun w hw => hw.hex hlow hpre)) ?_
      rintro _ _ ⟨_, ⟨a_15, c_16, rfl, rfl⟩, rfl⟩
      refine JL.pure rfl (PO.move (v := .tuple #[.int .i64 ((readI ((linesOf t).getD i [])).1), .slice a_15 ((readI ((linesOf t).getD i [])).2.1.length) c_16, .bool ((readI ((linesOf t).getD i [])).2.2)]) rfl) ?_
      refine JL.pure rfl (PO.extract (v := .int .i64 ((readI ((linesOf t).getD i [])).1)) rfl rfl) ?_
      refine JL.pure rfl (PO.extract (v := .slice a_15 ((readI ((linesOf t).getD i [])).2.1.length) c_16) rfl rfl) ?_
      refine JL.pure rfl (PO.extract (v := .bool ((readI ((linesOf t).getD i [])).2.2)) rfl rfl) ?_
      refine JL.pure rfl (PO.assign (v := .int .i64 ((readI ((linesOf t).getD i [])).1)) rfl) ?_
      refine JL.pure rfl (PO.assign (v := .slice a_15 ((readI ((linesOf t).getD i [])).2.1.length) c_16) rfl) ?_
      refine JL.pure rfl (PO.assign (v := .bool ((readI ((linesOf t).getD i [])).2.2)) rfl) ?_
      refine JL.nil ?_
      refine JQ.seq ?_
      refine JC.seq ?_
      refine JC.region ?_
      refine JL.pure rfl (PO.move (v := .slice ya y.length yc) he_8) ?_
      refine JL.pure rfl (PO.lenV Tryz.underlying82 rfl) ?_
      refine JL.pure rfl (PO.eqlI rfl rfl) ?_
      refine JL.pure rfl (PO.move (v := .bool (decide (((y.length : Nat) : Int) = 0))) rfl) ?_
      by_cases h_17 : ((y.length : Nat) : Int) = 0
      · skip
        refine JL.guardOn rfl rfl rfl (congrArg Value.bool (decide_eq_true h_17)) (JO.ofLO (LO.pure (PO.move (v := .int .i64 ((readI ((linesOf t).getD i [])).1)) rfl))) ?_
        rintro _ _ ⟨rfl, rfl⟩
        refine JL.guardOn rfl rfl rfl (congrArg Value.bool (decide_eq_true h_17)) (JO.ofLO (LO.pure (PO.move (v := .int .i64 f) he_5))) ?_
        rintro _ _ ⟨rfl, rfl⟩
        refine JL.guardOn rfl rfl rfl (congrArg Value.bool (decide_eq_true h_17)) (JO.ofLO (LO.pure (PO.lss rfl rfl))) ?_
        rintro _ _ ⟨rfl, rfl⟩
        refine JL.pure rfl (PO.pickT (v := .bool (decide (((readI ((linesOf t).getD i [])).1) < f))) (congrArg Value.bool (decide_eq_true h_17)) rfl) ?_
        refine JL.pure rfl (PO.assign (v := .bool (decide (((readI ((linesOf t).getD i [])).1) < f))) rfl) ?_
        refine JL.nil ?_
        refine JQ.seq ?_
        refine JC.seq ?_
        refine JC.seq ?_
        refine JC.region ?_
        refine JL.pure rfl (PO.move (v := .bool ((readI ((linesOf t).getD i [])).2.2)) rfl) ?_
        refine JL.pure rfl (PO.not rfl) ?_
        refine JL.pure rfl (PO.move (v := .bool (!((readI ((linesOf t).getD i [])).2.2))) rfl) ?_
        rcases Bool.eq_false_or_eq_true ((readI ((linesOf t).getD i [])).2.2) with h_18 | h_18
        · skip
          refine JL.guardOn rfl rfl rfl (congrArg Value.bool (congrArg Bool.not h_18)) (JO.ofLO (LO.pure (PO.move (v := .bool (decide (((readI ((linesOf t).getD i [])).1) < f))) rfl))) ?_
          rintro _ _ ⟨rfl, rfl⟩
          refine JL.guardOn rfl rfl rfl (congrArg Value.bool (congrArg Bool.not h_18)) (JO.ofLO (LO.pure (PO.not rfl))) ?_
          rintro _ _ ⟨rfl, rfl⟩
          refine JL.guardOn rfl rfl rfl (congrArg Value.bool (congrArg Bool.not h_18)) (JO.ofLO (LO.pure (PO.move (v := .bool (!(decide (((readI ((linesOf t).getD i [])).1) < f)))) rfl))) ?_
          rintro _ _ ⟨rfl, rfl⟩
          by_cases h_19 : ((readI ((linesOf t).getD i [])).1) < f
          · skip
            refine JL.guardOff (b := false) rfl rfl rfl (congrArg Value.bool (congrArg Bool.not (decide_eq_true h_19))) ?_
            refine JL.guardOff (b := false) rfl rfl rfl (congrArg Value.bool (congrArg Bool.not (decide_eq_true h_19))) ?_
            refine JL.guardOff (b := false) rfl rfl rfl (congrArg Value.bool (congrArg Bool.not (decide_eq_true h_19))) ?_
            refine JL.guardOff (b := false) rfl rfl rfl (congrArg Value.bool (congrArg Bool.not (decide_eq_true h_19))) ?_
            refine JL.guardOff (b := false) rfl rfl rfl (congrArg Value.bool (congrArg Bool.not (decide_eq_true h_19))) ?_
            refine JL.guardOff (b := false) rfl rfl rfl (congrArg Value.bool (congrArg Bool.not (decide_eq_true h_19))) ?_
            refine JL.guardOn rfl rfl rfl (congrArg Value.bool (congrArg Bool.not h_18)) (JO.ofLO (LO.pure (PO.pickF (v := .bool false) (congrArg Value.bool (congrArg Bool.not (decide_eq_true h_19))) rfl))) ?_
            rintro _ _ ⟨rfl, rfl⟩
            refine JL.pure rfl (PO.pickF (v := .bool false) (congrArg Value.bool (congrArg Bool.not h_18)) rfl) ?_
            refine JL.nil ?_
            refine JQ.seq ?_
            refine JC.condF (congrArg Value.bool rfl) ?_
            refine JC.skip ?_
            refine JQ.seq ?_
            refine JC.seq ?_
            refine JC.region ?_
            refine JL.pure rfl (PO.move (v := .int .i64 ((n : Nat) : Int)) he_9) ?_
            refine JL.pure rfl (PO.move (v := str ((linesOf t).getD i [])) rfl) ?_
            refine JL.pure rfl (PO.lenS Tryz.underlying9 rfl) ?_
            refine JL.pure rfl (PO.add (c := ((n + (((linesOf t).getD i []).length) : Nat) : Int)) rfl rfl (wr (by omega))) ?_
            refine JL.pure rfl (PO.assign (v := .int .i64 ((n + (((linesOf t).getD i []).length) : Nat) : Int)) rfl) ?_
            refine JL.nil ?_
            refine JQ.seq ?_
            refine JC.seq ?_
            refine JC.region ?_
            refine JL.pure rfl (PO.move (v := .bool (decide (((readI ((linesOf t).getD i [])).1) < f))) rfl) ?_
            refine JL.pure rfl (PO.not rfl) ?_
            refine JL.nil ?_
            refine JQ.seq ?_
            refine JC.condF (congrArg Value.bool (congrArg Bool.not (decide_eq_true h_19))) ?_
            refine JC.skip ?_
            refine JQ.blockN ?_
            refine JQ.seq ?_
            refine JC.region ?_
            refine JL.pure rfl (PO.add (c := ((i + 1 : Nat) : Int)) he_12 rfl (wr (by omega))) ?_
            refine JL.pure rfl (PO.move (v := .int .i64 ((i + 1 : Nat) : Int)) rfl) ?_
            refine JL.nil ?_
            refine JQ.pick [1, 1, 1] (A := [Res.rows (y.flatMap rdsR), Res.row (.slice ya y.length yc) 49 1 y.length (y.flatMap encR), rS a_2 c_3 (linesOf t)]) rfl ?_
            refine JQ.again ((linesOf t).length - (i + 1)) (by omega) ⟨i + 1, n + (((linesOf t).getD i []).length), ya, yc, y, by omega, by omega, by omega, (recs_skip hlt h_18 (by omega) hR), he_5, he_6, he_7, he_8, rfl, he_10, he_11, rfl, rfl, rfl⟩
          · skip
            refine JL.guardOn rfl rfl rfl (congrArg Value.bool (congrArg Bool.not (decide_eq_false h_19))) (JO.ofLO (LO.pure (PO.move (v := .int .i64 ((readI ((linesOf t).getD i [])).1)) rfl))) ?_
            rintro _ _ ⟨rfl, rfl⟩
            refine JL.guardOn rfl rfl rfl (congrArg Value.bool (congrArg Bool.not (decide_eq_false h_19))) (JO.ofLO (LO.pure (PO.move (v := .int .i64 f) he_5))) ?_
            rintro _ _ ⟨rfl, rfl⟩
            refine JL.guardOn rfl rfl rfl (congrArg Value.bool (congrArg Bool.not (decide_eq_false h_19))) (JO.ofLO (LO.pure (PO.move (v := .slice ya y.length yc) he_8))) ?_
            rintro _ _ ⟨rfl, rfl⟩
            refine JL.guardOn rfl rfl rfl (congrArg Value.bool (congrArg Bool.not (decide_eq_false h_19))) (JO.ofLO (LO.pure (PO.lenV Tryz.underlying82 rfl))) ?_
            rintro _ _ ⟨rfl, rfl⟩
            refine JL.guardOn rfl rfl rfl (congrArg Value.bool (congrArg Bool.not (decide_eq_false h_19))) (JO.ofLO (LO.pure (PO.add (c := f + ((y.length : Nat) : Int)) rfl rfl (wr (by omega))))) ?_
            rintro _ _ ⟨rfl, rfl⟩
            refine JL.guardOn rfl rfl rfl (congrArg Value.bool (congrArg Bool.not (decide_eq_false h_19))) (JO.ofLO (LO.pure (PO.neqI rfl rfl))) ?_
            rintro _ _ ⟨rfl, rfl⟩
            refine JL.guardOn rfl rfl rfl (congrArg Value.bool (congrArg Bool.not h_18)) (JO.ofLO (LO.pure (PO.pickT (v := .bool (!(decide (((readI ((linesOf t).getD i [])).1) = (f + ((y.length : Nat) : Int)))))) (congrArg Value.bool (congrArg Bool.not (decide_eq_false h_19))) rfl))) ?_
            rintro _ _ ⟨rfl, rfl⟩
            refine JL.pure rfl (PO.pickF (v := .bool (!(decide (((readI ((linesOf t).getD i [])).1) = (f + ((y.length : Nat) : Int)))))) (congrArg Value.bool (congrArg Bool.not h_18)) rfl) ?_
            refine JL.nil ?_
            refine JQ.seq ?_
            by_cases h_20 : ((readI ((linesOf t).getD i [])).1) = (f + ((y.length : Nat) : Int))
            · skip
              refine JC.condF (congrArg Value.bool (congrArg Bool.not (decide_eq_true h_20))) ?_
              refine JC.skip ?_
              refine JQ.seq ?_
              refine JC.seq ?_
              refine JC.region ?_
              refine JL.pure rfl (PO.move (v := .int .i64 ((n : Nat) : Int)) he_9) ?_
              refine JL.pure rfl (PO.move (v := str ((linesOf t).getD i [])) rfl) ?_
              refine JL.pure rfl (PO.lenS Tryz.underlying9 rfl) ?_
              refine JL.pure rfl (PO.add (c := ((n + (((linesOf t).getD i []).length) : Nat) : Int)) rfl rfl (wr (by omega))) ?_
              refine JL.pure rfl (PO.assign (v := .int .i64 ((n + (((linesOf t).getD i []).length) : Nat) : Int)) rfl) ?_
              refine JL.nil ?_
              refine JQ.seq ?_
              refine JC.seq ?_
              refine JC.region ?_
              refine JL.pure rfl (PO.move (v := .bool (decide (((readI ((linesOf t).getD i [])).1) < f))) rfl) ?_
              refine JL.pure rfl (PO.not rfl) ?_
              refine JL.nil ?_
              refine JQ.seq ?_
              refine JC.condT (congrArg Value.bool (congrArg Bool.not (decide_eq_false h_19))) ?_
              refine JC.region ?_
              refine JL.pure rfl (PO.move (v := .slice ya y.length yc) he_8) ?_
              refine JL.pure rfl (PO.move (v := .slice a_15 ((readI ((linesOf t).getD i [])).2.1.length) c_16) rfl) ?_
              refine JL.op rfl (JO.buildSlice (ps := [(0, .slice a_15 ((readI ((linesOf t).getD i [])).2.1.length) c_16)]) (cur := #[.slice a_15 ((readI ((linesOf t).getD i [])).2.1.length) c_16]) Tryz.underlying82 Tryz.sizeOf49 Tryz.zeroValue49 rfl (by kernel_rfl) (by decide) (by decide)) ?_
              rintro _ _ ⟨a_21, rfl, rfl⟩
              refine JL.op rfl (JO.append' 3 (q := 1) (news := ([(⟨⟨a_15, c_16⟩, ⟨(readI ((linesOf t).getD i [])).2.1⟩⟩ : RX)] : List RX).flatMap encR) (n' := (y ++ ([(⟨⟨a_15, c_16⟩, ⟨(readI ((linesOf t).getD i [])).2.1⟩⟩ : RX)] : List RX)).length) (cs' := (y ++ ([(⟨⟨a_15, c_16⟩, ⟨(readI ((linesOf t).getD i [])).2.1⟩⟩ : RX)] : List RX)).flatMap encR) rfl Tryz.underlying82 Tryz.underlying82 Tryz.typeInfo49 rfl (by' := 24) rfl rfl rfl rfl rfl (fun w hw => Src.sees (hw.see (i := 0) rfl) (oneR _)) (by (try simp only [List.length_append, List.length_cons, List.length_nil, List.length_take, List.length_drop]); omega) (by (try simp only [List.length_append, List.length_cons, List.length_nil, List.length_take, List.length_drop]); omega) (by simp only [List.length_append, List.length_take, List.length_drop, List.length_cons, List.length_nil] <;> first | rfl | omega) (by simp only [List.flatMap_append])) ?_
              rintro _ _ ⟨a_22, c_23, rfl, rfl⟩
              refine JL.pure rfl (PO.assign (v := .slice a_22 ((y ++ ([(⟨⟨a_15, c_16⟩, ⟨(readI ((linesOf t).getD i [])).2.1⟩⟩ : RX)] : List RX)).length) c_23) rfl) ?_
              refine JL.nil ?_
              refine JQ.blockN ?_
              refine JQ.seq ?_
              refine JC.region ?_
              refine JL.pure rfl (PO.add (c := ((i + 1 : Nat) : Int)) he_12 rfl (wr (by omega))) ?_
              refine JL.pure rfl (PO.move (v := .int .i64 ((i + 1 : Nat) : Int)) rfl) ?_
              refine JL.nil ?_
              refine JQ.ghost (L' := [Res.rows (rdsR (⟨⟨a_15, c_16⟩, ⟨(readI ((linesOf t).getD i [])).2.1⟩⟩ : RX)), Res.row (.slice a_21 1 1) 49 1 1 (([(⟨⟨a_15, c_16⟩, ⟨(readI ((linesOf t).getD i [])).2.1⟩⟩ : RX)] : List RX).flatMap encR), Res.rows (y.flatMap rdsR), Res.row (.slice a_22 ((y ++ ([(⟨⟨a_15, c_16⟩, ⟨(readI ((linesOf t).getD i [])).2.1⟩⟩ : RX)] : List RX)).length) c_23) 49 1 ((y ++ ([(⟨⟨a_15, c_16⟩, ⟨(readI ((linesOf t).getD i [])).2.1⟩⟩ : RX)] : List RX)).length) ((y ++ ([(⟨⟨a_15, c_16⟩, ⟨(readI ((linesOf t).getD i [])).2.1⟩⟩ : RX)] : List RX)).flatMap encR), rS a_2 c_3 (linesOf t)]) (fun w hw => hw.closeR (A := rdsR (⟨⟨a_15, c_16⟩, ⟨(readI ((linesOf t).getD i [])).2.1⟩⟩ : RX)) [1] rfl) ?_
              refine JQ.ghost (L' := [Res.rows ((y ++ [(⟨⟨a_15, c_16⟩, ⟨(readI ((linesOf t).getD i [])).2.1⟩⟩ : RX)]).flatMap rdsR), Res.row (.slice a_21 1 1) 49 1 1 (([(⟨⟨a_15, c_16⟩, ⟨(readI ((linesOf t).getD i [])).2.1⟩⟩ : RX)] : List RX).flatMap encR), Res.row (.slice a_22 ((y ++ ([(⟨⟨a_15, c_16⟩, ⟨(readI ((linesOf t).getD i [])).2.1⟩⟩ : RX)] : List RX)).length) c_23) 49 1 ((y ++ ([(⟨⟨a_15, c_16⟩, ⟨(readI ((linesOf t).getD i [])).2.1⟩⟩ : RX)] : List RX)).length) ((y ++ ([(⟨⟨a_15, c_16⟩, ⟨(readI ((linesOf t).getD i [])).2.1⟩⟩ : RX)] : List RX)).flatMap encR), rS a_2 c_3 (linesOf t)]) (fun w hw => hw.addR [2, 0] rfl flatMap_snoc) ?_
              refine JQ.pick [0, 1, 1] (A := [Res.rows ((y ++ [(⟨⟨a_15, c_16⟩, ⟨(readI ((linesOf t).getD i [])).2.1⟩⟩ : RX)]).flatMap rdsR), Res.row (.slice a_22 ((y ++ ([(⟨⟨a_15, c_16⟩, ⟨(readI ((linesOf t).getD i [])).2.1⟩⟩ : RX)] : List RX)).length) c_23) 49 1 ((y ++ [(⟨⟨a_15, c_16⟩, ⟨(readI ((linesOf t).getD i [])).2.1⟩⟩ : RX)]).length) ((y ++ [(⟨⟨a_15, c_16⟩, ⟨(readI ((linesOf t).getD i [])).2.1⟩⟩ : RX)]).flatMap encR), rS a_2 c_3 (linesOf t)]) rfl ?_
              refine JQ.again ((linesOf t).length - (i + 1)) (by omega) ⟨i + 1, n + (((linesOf t).getD i []).length), a_22, c_23, (y ++ [(⟨⟨a_15, c_16⟩, ⟨(readI ((linesOf t).getD i [])).2.1⟩⟩ : RX)]), by omega, (by simp only [List.length_append, List.length_cons, List.length_nil]; omega), by omega, (by have h_ := recs_take hlt h_18 (by omega) hR; rw [List.map_append, List.length_append]; exact h_), he_5, he_6, he_7, rfl, rfl, he_10, he_11, rfl, rfl, rfl⟩
            · skip
              refine JC.condT (congrArg Value.bool (congrArg Bool.not (decide_eq_false h_20))) ?_
              refine JC.exit ?_
              refine JQ.thenExit ?_
              refine JQ.blockO rfl ?_
              refine JQ.thenExit ?_
              refine JQ.thenExit ?_
              refine JQ.blockE ?_
              refine JQ.seq ?_
              refine JC.seq ?_
              refine JC.region ?_
              refine JL.pure rfl (PO.move (v := .slice ya y.length yc) he_8) ?_
              refine JL.pure rfl (PO.move (v := .int .i64 ((n : Nat) : Int)) he_9) ?_
              refine JL.pure rfl (PO.assign (v := .slice ya y.length yc) rfl) ?_
              refine JL.pure rfl (PO.assign (v := .int .i64 ((n : Nat) : Int)) rfl) ?_
              refine JL.nil ?_
              refine JQ.seq ?_
              refine JC.ret ?_
              refine JQ.ghost (L' := [Res.rows (rdsRS ya yc y), Res.row (.slice a_15 ((readI ((linesOf t).getD i [])).2.1.length) c_16) 48 2 (((readI ((linesOf t).getD i [])).2.1).length) (((readI ((linesOf t).getD i [])).2.1).flatMap encC), rS a_2 c_3 (linesOf t)]) (fun w hw => hw.consR (r := ⟨.slice ya y.length yc, 49, 1, y.length, y.flatMap encR⟩) (A := y.flatMap rdsR) [2, 1] rfl) ?_
              refine Done.two (.inl rfl) rfl (RV.tmp (v := .slice ya y.length yc) rfl) (RV.tmp (v := .int .i64 ((n : Nat) : Int)) rfl) (List.sublist_append_left [Res.rows (rdsRS ya yc y)] [Res.row (.slice a_15 ((readI ((linesOf t).getD i [])).2.1.length) c_16) 48 2 (((readI ((linesOf t).getD i [])).2.1).length) (((readI ((linesOf t).getD i [])).2.1).flatMap encC), rS a_2 c_3 (linesOf t)]) ?_
              have he := recs_stop hlt h_18 (by omega) (by omega) hR
              exact ⟨ya, yc, y, by rw [he], by rw [he], rfl⟩
        · skip
          refine JL.guardOff (b := true) rfl rfl rfl (congrArg Value.bool (congrArg Bool.not h_18)) ?_
          refine JL.guardOff (b := true) rfl rfl rfl (congrArg Value.bool (congrArg Bool.not h_18)) ?_
          refine JL.guardOff (b := true) rfl rfl rfl (congrArg Value.bool (congrArg Bool.not h_18)) ?_
          refine JL.guardOffU rfl rfl rfl rfl ?_
          refine JL.guardOffU rfl rfl rfl rfl ?_
          refine JL.guardOffU rfl rfl rfl rfl ?_
          refine JL.guardOffU rfl rfl rfl rfl ?_
          refine JL.guardOffU rfl rfl rfl rfl ?_
          refine JL.guardOffU rfl rfl rfl rfl ?_
          refine JL.guardOff (b := true) rfl rfl rfl (congrArg Value.bool (congrArg Bool.not h_18)) ?_
          refine JL.pure rfl (PO.pickT (v := .bool true) (congrArg Value.bool (congrArg Bool.not h_18)) rfl) ?_
          refine JL.nil ?_
          refine JQ.seq ?_
          refine JC.condT (congrArg Value.bool rfl) ?_
          refine JC.exit ?_
          refine JQ.thenExit ?_
          refine JQ.blockO rfl ?_
          refine JQ.thenExit ?_
          refine JQ.thenExit ?_
          refine JQ.blockE ?_
          refine JQ.seq ?_
          refine JC.seq ?_
          refine JC.region ?_
          refine JL.pure rfl (PO.move (v := .slice ya y.length yc) he_8) ?_
          refine JL.pure rfl (PO.move (v := .int .i64 ((n : Nat) : Int)) he_9) ?_
          refine JL.pure rfl (PO.assign (v := .slice ya y.length yc) rfl) ?_
          refine JL.pure rfl (PO.assign (v := .int .i64 ((n : Nat) : Int)) rfl) ?_
          refine JL.nil ?_
          refine JQ.seq ?_
          refine JC.ret ?_
          refine JQ.ghost (L' := [Res.rows (rdsRS ya yc y), Res.row (.slice a_15 ((readI ((linesOf t).getD i [])).2.1.length) c_16) 48 2 (((readI ((linesOf t).getD i [])).2.1).length) (((readI ((linesOf t).getD i [])).2.1).flatMap encC), rS a_2 c_3 (linesOf t)]) (fun w hw => hw.consR (r := ⟨.slice ya y.length yc, 49, 1, y.length, y.flatMap encR⟩) (A := y.flatMap rdsR) [2, 1] rfl) ?_
          refine Done.two (.inl rfl) rfl (RV.tmp (v := .slice ya y.length yc) rfl) (RV.tmp (v := .int .i64 ((n : Nat) : Int)) rfl) (List.sublist_append_left [Res.rows (rdsRS ya yc y)] [Res.row (.slice a_15 ((readI ((linesOf t).getD i [])).2.1.length) c_16) 48 2 (((readI ((linesOf t).getD i [])).2.1).length) (((readI ((linesOf t).getD i [])).2.1).flatMap encC), rS a_2 c_3 (linesOf t)]) ?_
          have he := recs_bad hlt h_18 hR
          exact ⟨ya, yc, y, by rw [he], by rw [he], rfl⟩
      · skip
        refine JL.guardOff (b := false) rfl rfl rfl (congrArg Value.bool (decide_eq_false h_17)) ?_
        refine JL.guardOff (b := false) rfl rfl rfl (congrArg Value.bool (decide_eq_false h_17)) ?_
        refine JL.guardOff (b := false) rfl rfl rfl (congrArg Value.bool (decide_eq_false h_17)) ?_
        refine JL.pure rfl (PO.pickF (v := .bool false) (congrArg Value.bool (decide_eq_false h_17)) rfl) ?_
        refine JL.pure rfl (PO.assign (v := .bool false) rfl) ?_
        refine JL.nil ?_
        refine JQ.seq ?_
        refine JC.seq ?_
        refine JC.seq ?_
        refine JC.region ?_
        refine JL.pure rfl (PO.move (v := .bool ((readI ((linesOf t).getD i [])).2.2)) rfl) ?_
        refine JL.pure rfl (PO.not rfl) ?_
        refine JL.pure rfl (PO.move (v := .bool (!((readI ((linesOf t).getD i [])).2.2))) rfl) ?_
        rcases Bool.eq_false_or_eq_true ((readI ((linesOf t).getD i [])).2.2) with h_24 | h_24
        · skip
          refine JL.guardOn rfl rfl rfl (congrArg Value.bool (congrArg Bool.not h_24)) (JO.ofLO (LO.pure (PO.move (v := .bool false) rfl))) ?_
          rintro _ _ ⟨rfl, rfl⟩
          refine JL.guardOn rfl rfl rfl (congrArg Value.bool (congrArg Bool.not h_24)) (JO.ofLO (LO.pure (PO.not rfl))) ?_
          rintro _ _ ⟨rfl, rfl⟩
          refine JL.guardOn rfl rfl rfl (congrArg Value.bool (congrArg Bool.not h_24)) (JO.ofLO (LO.pure (PO.move (v := .bool true) rfl))) ?_
          rintro _ _ ⟨rfl, rfl⟩
          refine JL.guardOn rfl rfl rfl (congrArg Value.bool rfl) (JO.ofLO (LO.pure (PO.move (v := .int .i64 ((readI ((linesOf t).getD i [])).1)) rfl))) ?_
          rintro _ _ ⟨rfl, rfl⟩
          refine JL.guardOn rfl rfl rfl (congrArg Value.bool rfl) (JO.ofLO (LO.pure (PO.move (v := .int .i64 f) he_5))) ?_
          rintro _ _ ⟨rfl, rfl⟩
          refine JL.guardOn rfl rfl rfl (congrArg Value.bool rfl) (JO.ofLO (LO.pure (PO.move (v := .slice ya y.length yc) he_8))) ?_
          rintro _ _ ⟨rfl, rfl⟩
          refine JL.guardOn rfl rfl rfl (congrArg Value.bool rfl) (JO.ofLO (LO.pure (PO.lenV Tryz.underlying82 rfl))) ?_
          rintro _ _ ⟨rfl, rfl⟩
          refine JL.guardOn rfl rfl rfl (congrArg Value.bool rfl) (JO.ofLO (LO.pure (PO.add (c := f + ((y.length : Nat) : Int)) rfl rfl (wr (by omega))))) ?_
          rintro _ _ ⟨rfl, rfl⟩
          refine JL.guardOn rfl rfl rfl (congrArg Value.bool rfl) (JO.ofLO (LO.pure (PO.neqI rfl rfl))) ?_
          rintro _ _ ⟨rfl, rfl⟩
          refine JL.guardOn rfl rfl rfl (congrArg Value.bool (congrArg Bool.not h_24)) (JO.ofLO (LO.pure (PO.pickT (v := .bool (!(decide (((readI ((linesOf t).getD i [])).1) = (f + ((y.length : Nat) : Int)))))) (congrArg Value.bool rfl) rfl))) ?_
          rintro _ _ ⟨rfl, rfl⟩
          refine JL.pure rfl (PO.pickF (v := .bool (!(decide (((readI ((linesOf t).getD i [])).1) = (f + ((y.length : Nat) : Int)))))) (congrArg Value.bool (congrArg Bool.not h_24)) rfl) ?_
          refine JL.nil ?_
          refine JQ.seq ?_
          by_cases h_25 : ((readI ((linesOf t).getD i [])).1) = (f + ((y.length : Nat) : Int))
          · skip
            refine JC.condF (congrArg Value.bool (congrArg Bool.not (decide_eq_true h_25))) ?_
            refine JC.skip ?_
            refine JQ.seq ?_
            refine JC.seq ?_
            refine JC.region ?_
            refine JL.pure rfl (PO.move (v := .int .i64 ((n : Nat) : Int)) he_9) ?_
            refine JL.pure rfl (PO.move (v := str ((linesOf t).getD i [])) rfl) ?_
            refine JL.pure rfl (PO.lenS Tryz.underlying9 rfl) ?_
            refine JL.pure rfl (PO.add (c := ((n + (((linesOf t).getD i []).length) : Nat) : Int)) rfl rfl (wr (by omega))) ?_
            refine JL.pure rfl (PO.assign (v := .int .i64 ((n + (((linesOf t).getD i []).length) : Nat) : Int)) rfl) ?_
            refine JL.nil ?_
            refine JQ.seq ?_
            refine JC.seq ?_
            refine JC.region ?_
            refine JL.pure rfl (PO.move (v := .bool false) rfl) ?_
            refine JL.pure rfl (PO.not rfl) ?_
            refine JL.nil ?_
            refine JQ.seq ?_
            refine JC.condT (congrArg Value.bool rfl) ?_
            refine JC.region ?_
            refine JL.pure rfl (PO.move (v := .slice ya y.length yc) he_8) ?_
            refine JL.pure rfl (PO.move (v := .slice a_15 ((readI ((linesOf t).getD i [])).2.1.length) c_16) rfl) ?_
            refine JL.op rfl (JO.buildSlice (ps := [(0, .slice a_15 ((readI ((linesOf t).getD i [])).2.1.length) c_16)]) (cur := #[.slice a_15 ((readI ((linesOf t).getD i [])).2.1.length) c_16]) Tryz.underlying82 Tryz.sizeOf49 Tryz.zeroValue49 rfl (by kernel_rfl) (by decide) (by decide)) ?_
            rintro _ _ ⟨a_26, rfl, rfl⟩
            refine JL.op rfl (JO.append' 3 (q := 1) (news := ([(⟨⟨a_15, c_16⟩, ⟨(readI ((linesOf t).getD i [])).2.1⟩⟩ : RX)] : List RX).flatMap encR) (n' := (y ++ ([(⟨⟨a_15, c_16⟩, ⟨(readI ((linesOf t).getD i [])).2.1⟩⟩ : RX)] : List RX)).length) (cs' := (y ++ ([(⟨⟨a_15, c_16⟩, ⟨(readI ((linesOf t).getD i [])).2.1⟩⟩ : RX)] : List RX)).flatMap encR) rfl Tryz.underlying82 Tryz.underlying82 Tryz.typeInfo49 rfl (by' := 24) rfl rfl rfl rfl rfl (fun w hw => Src.sees (hw.see (i := 0) rfl) (oneR _)) (by (try simp only [List.length_append, List.length_cons, List.length_nil, List.length_take, List.length_drop]); omega) (by (try simp only [List.length_append, List.length_cons, List.length_nil, List.length_take, List.length_drop]); omega) (by simp only [List.length_append, List.length_take, List.length_drop, List.length_cons, List.length_nil] <;> first | rfl | omega) (by simp only [List.flatMap_append])) ?_
            rintro _ _ ⟨a_27, c_28, rfl, rfl⟩
            refine JL.pure rfl (PO.assign (v := .slice a_27 ((y ++ ([(⟨⟨a_15, c_16⟩, ⟨(readI ((linesOf t).getD i [])).2.1⟩⟩ : RX)] : List RX)).length) c_28) rfl) ?_
            refine JL.nil ?_
            refine JQ.blockN ?_
            refine JQ.seq ?_
            refine JC.region ?_
            refine JL.pure rfl (PO.add (c := ((i + 1 : Nat) : Int)) he_12 rfl (wr (by omega))) ?_
            refine JL.pure rfl (PO.move (v := .int .i64 ((i + 1 : Nat) : Int)) rfl) ?_
            refine JL.nil ?_
            refine JQ.ghost (L' := [Res.rows (rdsR (⟨⟨a_15, c_16⟩, ⟨(readI ((linesOf t).getD i [])).2.1⟩⟩ : RX)), Res.row (.slice a_26 1 1) 49 1 1 (([(⟨⟨a_15, c_16⟩, ⟨(readI ((linesOf t).getD i [])).2.1⟩⟩ : RX)] : List RX).flatMap encR), Res.rows (y.flatMap rdsR), Res.row (.slice a_27 ((y ++ ([(⟨⟨a_15, c_16⟩, ⟨(readI ((linesOf t).getD i [])).2.1⟩⟩ : RX)] : List RX)).length) c_28) 49 1 ((y ++ ([(⟨⟨a_15, c_16⟩, ⟨(readI ((linesOf t).getD i [])).2.1⟩⟩ : RX)] : List RX)).length) ((y ++ ([(⟨⟨a_15, c_16⟩, ⟨(readI ((linesOf t).getD i [])).2.1⟩⟩ : RX)] : List RX)).flatMap encR), rS a_2 c_3 (linesOf t)]) (fun w hw => hw.closeR (A := rdsR (⟨⟨a_15, c_16⟩, ⟨(readI ((linesOf t).getD i [])).2.1⟩⟩ : RX)) [1] rfl) ?_
            refine JQ.ghost (L' := [Res.rows ((y ++ [(⟨⟨a_15, c_16⟩, ⟨(readI ((linesOf t).getD i [])).2.1⟩⟩ : RX)]).flatMap rdsR), Res.row (.slice a_26 1 1) 49 1 1 (([(⟨⟨a_15, c_16⟩, ⟨(readI ((linesOf t).getD i [])).2.1⟩⟩ : RX)] : List RX).flatMap encR), Res.row (.slice a_27 ((y ++ ([(⟨⟨a_15, c_16⟩, ⟨(readI ((linesOf t).getD i [])).2.1⟩⟩ : RX)] : List RX)).length) c_28) 49 1 ((y ++ ([(⟨⟨a_15, c_16⟩, ⟨(readI ((linesOf t).getD i [])).2.1⟩⟩ : RX)] : List RX)).length) ((y ++ ([(⟨⟨a_15, c_16⟩, ⟨(readI ((linesOf t).getD i [])).2.1⟩⟩ : RX)] : List RX)).flatMap encR), rS a_2 c_3 (linesOf t)]) (fun w hw => hw.addR [2, 0] rfl flatMap_snoc) ?_
            refine JQ.pick [0, 1, 1] (A := [Res.rows ((y ++ [(⟨⟨a_15, c_16⟩, ⟨(readI ((linesOf t).getD i [])).2.1⟩⟩ : RX)]).flatMap rdsR), Res.row (.slice a_27 ((y ++ ([(⟨⟨a_15, c_16⟩, ⟨(readI ((linesOf t).getD i [])).2.1⟩⟩ : RX)] : List RX)).length) c_28) 49 1 ((y ++ [(⟨⟨a_15, c_16⟩, ⟨(readI ((linesOf t).getD i [])).2.1⟩⟩ : RX)]).length) ((y ++ [(⟨⟨a_15, c_16⟩, ⟨(readI ((linesOf t).getD i [])).2.1⟩⟩ : RX)]).flatMap encR), rS a_2 c_3 (linesOf t)]) rfl ?_
            refine JQ.again ((linesOf t).length - (i + 1)) (by omega) ⟨i + 1, n + (((linesOf t).getD i []).length), a_27, c_28, (y ++ [(⟨⟨a_15, c_16⟩, ⟨(readI ((linesOf t).getD i [])).2.1⟩⟩ : RX)]), by omega, (by simp only [List.length_append, List.length_cons, List.length_nil]; omega), by omega, (by have h_ := recs_take hlt h_24 (by omega) hR; rw [List.map_append, List.length_append]; exact h_), he_5, he_6, he_7, rfl, rfl, he_10, he_11, rfl, rfl, rfl⟩
          · skip
            refine JC.condT (congrArg Value.bool (congrArg Bool.not (decide_eq_false h_25))) ?_
            refine JC.exit ?_
            refine JQ.thenExit ?_
            refine JQ.blockO rfl ?_
            refine JQ.thenExit ?_
            refine JQ.thenExit ?_
            refine JQ.blockE ?_
            refine JQ.seq ?_
            refine JC.seq ?_
            refine JC.region ?_
            refine JL.pure rfl (PO.move (v := .slice ya y.length yc) he_8) ?_
            refine JL.pure rfl (PO.move (v := .int .i64 ((n : Nat) : Int)) he_9) ?_
            refine JL.pure rfl (PO.assign (v := .slice ya y.length yc) rfl) ?_
            refine JL.pure rfl (PO.assign (v := .int .i64 ((n : Nat) : Int)) rfl) ?_
            refine JL.nil ?_
            refine JQ.seq ?_
            refine JC.ret ?_
            refine JQ.ghost (L' := [Res.rows (rdsRS ya yc y), Res.row (.slice a_15 ((readI ((linesOf t).getD i [])).2.1.length) c_16) 48 2 (((readI ((linesOf t).getD i [])).2.1).length) (((readI ((linesOf t).getD i [])).2.1).flatMap encC), rS a_2 c_3 (linesOf t)]) (fun w hw => hw.consR (r := ⟨.slice ya y.length yc, 49, 1, y.length, y.flatMap encR⟩) (A := y.flatMap rdsR) [2, 1] rfl) ?_
            refine Done.two (.inl rfl) rfl (RV.tmp (v := .slice ya y.length yc) rfl) (RV.tmp (v := .int .i64 ((n : Nat) : Int)) rfl) (List.sublist_append_left [Res.rows (rdsRS ya yc y)] [Res.row (.slice a_15 ((readI ((linesOf t).getD i [])).2.1.length) c_16) 48 2 (((readI ((linesOf t).getD i [])).2.1).length) (((readI ((linesOf t).getD i [])).2.1).flatMap encC), rS a_2 c_3 (linesOf t)]) ?_
            have he := recs_stop hlt h_24 (by omega) (by omega) hR
            exact ⟨ya, yc, y, by rw [he], by rw [he], rfl⟩
        · skip
          refine JL.guardOff (b := true) rfl rfl rfl (congrArg Value.bool (congrArg Bool.not h_24)) ?_
          refine JL.guardOff (b := true) rfl rfl rfl (congrArg Value.bool (congrArg Bool.not h_24)) ?_
          refine JL.guardOff (b := true) rfl rfl rfl (congrArg Value.bool (congrArg Bool.not h_24)) ?_
          refine JL.guardOffU rfl rfl rfl rfl ?_
          refine JL.guardOffU rfl rfl rfl rfl ?_
          refine JL.guardOffU rfl rfl rfl rfl ?_
          refine JL.guardOffU rfl rfl rfl rfl ?_
          refine JL.guardOffU rfl rfl rfl rfl ?_
          refine JL.guardOffU rfl rfl rfl rfl ?_
          refine JL.guardOff (b := true) rfl rfl rfl (congrArg Value.bool (congrArg Bool.not h_24)) ?_
          refine JL.pure rfl (PO.pickT (v := .bool true) (congrArg Value.bool (congrArg Bool.not h_24)) rfl) ?_
          refine JL.nil ?_
          refine JQ.seq ?_
          refine JC.condT (congrArg Value.bool rfl) ?_
          refine JC.exit ?_
          refine JQ.thenExit ?_
          refine JQ.blockO rfl ?_
          refine JQ.thenExit ?_
          refine JQ.thenExit ?_
          refine JQ.blockE ?_
          refine JQ.seq ?_
          refine JC.seq ?_
          refine JC.region ?_
          refine JL.pure rfl (PO.move (v := .slice ya y.length yc) he_8) ?_
          refine JL.pure rfl (PO.move (v := .int .i64 ((n : Nat) : Int)) he_9) ?_
          refine JL.pure rfl (PO.assign (v := .slice ya y.length yc) rfl) ?_
          refine JL.pure rfl (PO.assign (v := .int .i64 ((n : Nat) : Int)) rfl) ?_
          refine JL.nil ?_
          refine JQ.seq ?_
          refine JC.ret ?_
          refine JQ.ghost (L' := [Res.rows (rdsRS ya yc y), Res.row (.slice a_15 ((readI ((linesOf t).getD i [])).2.1.length) c_16) 48 2 (((readI ((linesOf t).getD i [])).2.1).length) (((readI ((linesOf t).getD i [])).2.1).flatMap encC), rS a_2 c_3 (linesOf t)]) (fun w hw => hw.consR (r := ⟨.slice ya y.length yc, 49, 1, y.length, y.flatMap encR⟩) (A := y.flatMap rdsR) [2, 1] rfl) ?_
          refine Done.two (.inl rfl) rfl (RV.tmp (v := .slice ya y.length yc) rfl) (RV.tmp (v := .int .i64 ((n : Nat) : Int)) rfl) (List.sublist_append_left [Res.rows (rdsRS ya yc y)] [Res.row (.slice a_15 ((readI ((linesOf t).getD i [])).2.1.length) c_16) 48 2 (((readI ((linesOf t).getD i [])).2.1).length) (((readI ((linesOf t).getD i [])).2.1).flatMap encC), rS a_2 c_3 (linesOf t)]) ?_
          have he := recs_bad hlt h_24 hR
          exact ⟨ya, yc, y, by rw [he], by rw [he], rfl⟩
    · skip
      refine JC.condF (congrArg Value.bool (decide_eq_false h_13)) ?_
      refine JC.exit ?_
      refine JQ.thenExit ?_
      refine JQ.thenExit ?_
      refine JQ.blockE ?_
      refine JQ.seq ?_
      refine JC.seq ?_
      refine JC.region ?_
      refine JL.pure rfl (PO.move (v := .slice ya y.length yc) he_8) ?_
      refine JL.pure rfl (PO.move (v := .int .i64 ((n : Nat) : Int)) he_9) ?_
      refine JL.pure rfl (PO.assign (v := .slice ya y.length yc) rfl) ?_
      refine JL.pure rfl (PO.assign (v := .int .i64 ((n : Nat) : Int)) rfl) ?_
      refine JL.nil ?_
      refine JQ.seq ?_
      refine JC.ret ?_
      refine JQ.ghost (L' := [Res.rows (rdsRS ya yc y), rS a_2 c_3 (linesOf t)]) (fun w hw => hw.consR (r := ⟨.slice ya y.length yc, 49, 1, y.length, y.flatMap encR⟩) (A := y.flatMap rdsR) [1, 0] rfl) ?_
      refine Done.two (.inl rfl) rfl (RV.tmp (v := .slice ya y.length yc) rfl) (RV.tmp (v := .int .i64 ((n : Nat) : Int)) rfl) (List.sublist_append_left [Res.rows (rdsRS ya yc y)] [rS a_2 c_3 (linesOf t)]) ?_
      have he := recs_end (by omega) hR
      exact ⟨ya, yc, y, by rw [he], by rw [he], rfl⟩
  · skip
    refine JC.condT (congrArg Value.bool (congrArg Bool.not h_1)) ?_
    refine JC.seq ?_
    refine JC.region ?_
    refine JL.pure rfl (PO.assign (v := .slice none 0 0) rfl) ?_
    refine JL.pure rfl (PO.assign (v := .int .i64 0) rfl) ?_
    refine JL.nil ?_
    refine JQ.seq ?_
    refine JC.ret ?_
    refine JQ.thenRet ?_
    refine JQ.nilRow 49 1 ?_
    refine JQ.ghost (L' := [Res.rows (rdsRS none 0 ([] : List RX))]) (fun w hw => hw.closeR (A := rdsRS none 0 ([] : List RX)) [0] rfl) ?_
    refine Done.two (.inl rfl) rfl (RV.tmp (v := .slice none 0 0) rfl) (RV.tmp (v := .int .i64 0) rfl) (List.Sublist.refl _) ?_
    have he : recsOf t f = ([], 0) := by rw [recsOf, if_neg (by rw [h_1]; exact Bool.false_ne_true)]
    exact ⟨none, 0, [], by rw [he]; rfl, by rw [he] <;> rfl, rfl⟩

set_option maxRecDepth 4000 in
set_option maxHeartbeats 1000000 in
theorem Y_sRecs (t : Str) (f : Int) (ht : t.length ≤ 100000000) :
    Ct Tryz.prog 69 [str t, .int .i64 f] [] (fun _ => True) (fun v A' => ∃ a c y, y.map cellsR = (recsOf t f).1 ∧ v = .tuple #[.slice a y.length c, .int .i64 (((recsOf t f).2 : Nat) : Int)] ∧ A' = [.rows (rdsRS a c y)]) := by
  refine Ct.intro Tryz.func69 rfl Tryz.ntmps69 (Nat.le_of_ble_eq_true rfl) fun w0 hpre => ?_
  refine JC.seq ?_
  refine JC.region ?_
  refine JL.pure rfl (PO.assign (v := .slice none 0 0) rfl) ?_
  refine JL.pure rfl (PO.assign (v := .int .i64 0) rfl) ?_
  refine JL.nil ?_
  refine JQ.seq ?_
  refine JC.seq ?_
  refine JC.region ?_
  refine JL.op rfl (JO.buildSlice (ps := []) (cur := #[]) Tryz.underlying82 Tryz.sizeOf49 Tryz.zeroValue49 rfl (by kernel_rfl) (by decide) (by decide)) ?_
  rintro _ _ ⟨a_1, rfl, rfl⟩
  refine JL.pure rfl (PO.assign (v := .slice a_1 0 0) rfl) ?_
  refine JL.nil ?_
  refine JQ.seq ?_
  refine JC.seq ?_
  refine JC.seq ?_
  refine JC.region ?_
  refine JL.pure rfl (PO.move (v := .int .i64 f) rfl) ?_
  refine JL.op rfl (JO.call [] Tryz.call89 rfl (Y_l01In f 1 100000) rfl (fun _ _ => trivial)) ?_
  rintro _ _ ⟨_, ⟨rfl, rfl⟩, rfl⟩
  refine JL.pure rfl (PO.not rfl) ?_
  refine JL.nil ?_
  refine JQ.seq ?_
  rcases Bool.eq_false_or_eq_true (within 1 f 100000) with h_2 | h_2
  · skip
    refine JC.condF (congrArg Value.bool (congrArg Bool.not h_2)) ?_
    refine JC.skip ?_
    refine JQ.seq ?_
    refine JC.seq ?_
    have hwi := h_2
    have hwj := (show 1 ≤ f ∧ f ≤ 100000 by simpa only [within, Bool.and_eq_true, decide_eq_true_eq] using hwi)
    have hll : (linesOf t).length ≤ t.length := linesG_len t []
    refine JC.region ?_
    refine JL.pure rfl (PO.move (v := str t) rfl) ?_
    refine JL.op rfl (JO.call [] Tryz.call57 rfl (Y_sLines t (by omega)) rfl (fun _ _ => trivial)) ?_
    rintro _ _ ⟨_, ⟨a_3, c_4, rfl, rfl⟩, rfl⟩
    refine JL.pure rfl (PO.assign (v := .slice a_3 ((linesOf t).length) c_4) rfl) ?_
    refine JL.nil ?_
    refine JQ.seq ?_
    refine JC.seq ?_
    refine JC.region ?_
    refine JL.pure rfl (PO.assign (v := .int .i64 0) rfl) ?_
    refine JL.nil ?_
    refine JQ.seq ?_
    refine JC.seq ?_
    refine JC.seq ?_
    refine JC.region ?_
    refine JL.pure rfl (PO.assign (v := .int .i64 0) rfl) ?_
    refine JL.nil ?_
    refine JQ.seq ?_
    refine JC.block ?_
    refine JC.ghost (L' := [Res.rows (([] : List RX).flatMap rdsR), Res.row (.slice a_1 0 0) 49 1 0 (([] : List RX).flatMap encR), rS a_3 c_4 (linesOf t)]) (fun w hw => hw.nilR (α := RX) (f := rdsR) [1] (B := [Res.row (.slice a_1 0 0) 49 1 0 (([] : List RX).flatMap encR)]) (F := [rS a_3 c_4 (linesOf t)]) rfl) ?_
    refine JC.loop (fun k_ e_ L_ => ∃ i : Nat, ∃ n : Nat, ∃ ya : Option Addr, ∃ yc : Nat, ∃ y : List RX, (i ≤ (linesOf t).length) ∧ (y.length ≤ i) ∧ (n + sumLen ((linesOf t).drop i) ≤ t.length) ∧ (recsOf t f = (y.map cellsR ++ (recsG f y.length ((linesOf t).drop i)).1, n + (recsG f y.length ((linesOf t).drop i)).2)) ∧ e_ 1 = .int .i64 f ∧ e_ 4 = .slice none 0 0 ∧ e_ 5 = .int .i64 0 ∧ e_ 6 = .slice ya y.length yc ∧ e_ 7 = .slice a_3 ((linesOf t).length) c_4 ∧ e_ 8 = .int .i64 ((n : Nat) : Int) ∧ e_ 9 = .int .i64 ((i : Nat) : Int) ∧ L_ = [Res.rows (y.flatMap rdsR), Res.row (.slice ya y.length yc) 49 1 y.length (y.flatMap encR), rS a_3 c_4 (linesOf t)] ∧ k_ = (linesOf t).length - i) _ ⟨0, 0, a_1, 0, [], by omega, by simp, (by have h_ := linesG_sum t []; simp only [List.length_nil, Nat.zero_add, List.drop_zero] at *; exact h_), (by rw [recsOf, if_pos hwi]; simp), rfl, rfl, rfl, rfl, rfl, rfl, rfl, rfl, rfl⟩ ?_
    rintro _ e_5 _ ⟨i, n, ya, yc, y, hi, hyl, hn, hR, he_6, he_7, he_8, he_9, he_10, he_11, he_12, rfl, rfl⟩
    refine JC.seq ?_
    refine JC.seq ?_
    refine JC.region ?_
    refine JL.pure rfl (PO.move (v := .int .i64 ((i : Nat) : Int)) he_12) ?_
    refine JL.pure rfl (PO.move (v := .slice a_3 ((linesOf t).length) c_4) he_10) ?_
    refine JL.pure rfl (PO.lenV Tryz.underlying71 rfl) ?_
    refine JL.pure rfl (PO.lss rfl rfl) ?_
    refine JL.nil ?_
    refine JQ.seq ?_
    by_cases h_13 : ((i : Nat) : Int) < (((linesOf t).length : Nat) : Int)
    · skip
      have hlt : i < (linesOf t).length := by omega
      have hml : ((linesOf t).getD i []).length ≤ 0 + t.length := linesG_mem t [] _ (getD_mem (d := []) hlt)
      have hsl : sumLen ((linesOf t).drop i) = ((linesOf t).getD i []).length + sumLen ((linesOf t).drop (i + 1)) := sumLen_step hlt
      refine JC.condT (congrArg Value.bool (decide_eq_true h_13)) ?_
      refine JC.skip ?_
      refine JQ.seq ?_
      refine JC.seq ?_
      refine JC.block ?_
      refine JC.seq ?_
      refine JC.region ?_
      refine JL.pure rfl (PO.move (v := .slice a_3 ((linesOf t).length) c_4) he_10) ?_
      refine JL.pure rfl (PO.move (v := .int .i64 ((i : Nat) : Int)) he_12) ?_
      refine JL.facts fun hst => ?_
      obtain ⟨hr_14, hr_14b, -⟩ := row_some 2 rfl (by omega) hst
      refine JL.pure rfl (PO.indexAddrV (i := i) Tryz.underlying71 Tryz.sizeOf9 hr_14 hr_14b rfl rfl (by omega)) ?_
      refine JL.ld rfl (LO.loadR1 2 (v := str ((linesOf t).getD i [])) rfl rfl Tryz.isAgg9 (atS (by omega))) ?_
      refine JL.op rfl (JO.call [] Tryz.call58 rfl (Y_sRead ((linesOf t).getD i []) (by omega)) rfl (fun _ _ => trivial)) ?_
      rintro _ _ ⟨_, ⟨a_15, c_16, rfl, rfl⟩, rfl⟩
      refine JL.pure rfl (PO.move (v := .tuple #[.int .i64 ((readI ((linesOf t).getD i [])).1), .slice a_15 ((readI ((linesOf t).getD i [])).2.1.length) c_16, .bool ((readI ((linesOf t).getD i [])).2.2)]) rfl) ?_
      refine JL.pure rfl (PO.extract (v := .int .i64 ((readI ((linesOf t).getD i [])).1)) rfl rfl) ?_
      refine JL.pure rfl (PO.extract (v := .slice a_15 ((readI ((linesOf t).getD i [])).2.1.length) c_16) rfl rfl) ?_
      refine JL.pure rfl (PO.extract (v := .bool ((readI ((linesOf t).getD i [])).2.2)) rfl rfl) ?_
      refine JL.pure rfl (PO.assign (v := .int .i64 ((readI ((linesOf t).getD i [])).1)) rfl) ?_
      refine JL.pure rfl (PO.assign (v := .slice a_15 ((readI ((linesOf t).getD i [])).2.1.length) c_16) rfl) ?_
      refine JL.pure rfl (PO.assign (v := .bool ((readI ((linesOf t).getD i [])).2.2)) rfl) ?_
      refine JL.nil ?_
      refine JQ.seq ?_
      refine JC.seq ?_
      refine JC.seq ?_
      refine JC.region ?_
      refine JL.pure rfl (PO.move (v := .bool ((readI ((linesOf t).getD i [])).2.2)) rfl) ?_
      refine JL.pure rfl (PO.not rfl) ?_
      refine JL.pure rfl (PO.move (v := .bool (!((readI ((linesOf t).getD i [])).2.2))) rfl) ?_
      rcases Bool.eq_false_or_eq_true ((readI ((linesOf t).getD i [])).2.2) with h_17 | h_17
      · skip
        refine JL.guardOn rfl rfl rfl (congrArg Value.bool (congrArg Bool.not h_17)) (JO.ofLO (LO.pure (PO.move (v := .int .i64 ((readI ((linesOf t).getD i [])).1)) rfl))) ?_
        rintro _ _ ⟨rfl, rfl⟩
        refine JL.guardOn rfl rfl rfl (congrArg Value.bool (congrArg Bool.not h_17)) (JO.ofLO (LO.pure (PO.move (v := .int .i64 f) he_6))) ?_
        rintro _ _ ⟨rfl, rfl⟩
        refine JL.guardOn rfl rfl rfl (congrArg Value.bool (congrArg Bool.not h_17)) (JO.ofLO (LO.pure (PO.move (v := .slice ya y.length yc) he_9))) ?_
        rintro _ _ ⟨rfl, rfl⟩
        refine JL.guardOn rfl rfl rfl (congrArg Value.bool (congrArg Bool.not h_17)) (JO.ofLO (LO.pure (PO.lenV Tryz.underlying82 rfl))) ?_
        rintro _ _ ⟨rfl, rfl⟩
        refine JL.guardOn rfl rfl rfl (congrArg Value.bool (congrArg Bool.not h_17)) (JO.ofLO (LO.pure (PO.add (c := f + ((y.length : Nat) : Int)) rfl rfl (wr (by omega))))) ?_
        rintro _ _ ⟨rfl, rfl⟩
        refine JL.guardOn rfl rfl rfl (congrArg Value.bool (congrArg Bool.not h_17)) (JO.ofLO (LO.pure (PO.neqI rfl rfl))) ?_
        rintro _ _ ⟨rfl, rfl⟩
        refine JL.guardOn rfl rfl rfl (congrArg Value.bool (congrArg Bool.not h_17)) (JO.ofLO (LO.pure (PO.move (v := .bool (!(decide (((readI ((linesOf t).getD i [])).1) = (f + ((y.length : Nat) : Int)))))) rfl))) ?_
        rintro _ _ ⟨rfl, rfl⟩
        by_cases h_18 : ((readI ((linesOf t).getD i [])).1) = (f + ((y.length : Nat) : Int))
        · skip
          refine JL.guardOff (b := false) rfl rfl rfl (congrArg Value.bool (congrArg Bool.not (decide_eq_true h_18))) ?_
          refine JL.guardOff (b := false) rfl rfl rfl (congrArg Value.bool (congrArg Bool.not (decide_eq_true h_18))) ?_
          refine JL.guardOff (b := false) rfl rfl rfl (congrArg Value.bool (congrArg Bool.not (decide_eq_true h_18))) ?_
          refine JL.guardOff (b := false) rfl rfl rfl (congrArg Value.bool (congrArg Bool.not (decide_eq_true h_18))) ?_
          refine JL.guardOffU rfl rfl rfl rfl ?_
          refine JL.guardOffU rfl rfl rfl rfl ?_
          refine JL.guardOffU rfl rfl rfl rfl ?_
          refine JL.guardOff (b := false) rfl rfl rfl (congrArg Value.bool (congrArg Bool.not (decide_eq_true h_18))) ?_
          refine JL.guardOn rfl rfl rfl (congrArg Value.bool (congrArg Bool.not h_17)) (JO.ofLO (LO.pure (PO.pickF (v := .bool false) (congrArg Value.bool (congrArg Bool.not (decide_eq_true h_18))) rfl))) ?_
          rintro _ _ ⟨rfl, rfl⟩
          refine JL.pure rfl (PO.pickF (v := .bool false) (congrArg Value.bool (congrArg Bool.not h_17)) rfl) ?_
          refine JL.nil ?_
          refine JQ.seq ?_
          refine JC.condF (congrArg Value.bool rfl) ?_
          refine JC.skip ?_
          refine JQ.seq ?_
          refine JC.seq ?_
          refine JC.seq ?_
          refine JC.region ?_
          refine JL.pure rfl (PO.move (v := .int .i64 ((readI ((linesOf t).getD i [])).1)) rfl) ?_
          refine JL.pure rfl (PO.move (v := .int .i64 f) he_6) ?_
          refine JL.pure rfl (PO.move (v := .slice ya y.length yc) he_9) ?_
          refine JL.pure rfl (PO.lenV Tryz.underlying82 rfl) ?_
          refine JL.pure rfl (PO.add (c := f + ((y.length : Nat) : Int)) rfl rfl (wr (by omega))) ?_
          refine JL.pure rfl (PO.eqlI rfl rfl) ?_
          refine JL.nil ?_
          refine JQ.seq ?_
          refine JC.condT (congrArg Value.bool (decide_eq_true h_18)) ?_
          refine JC.region ?_
          refine JL.pure rfl (PO.move (v := .slice ya y.length yc) he_9) ?_
          refine JL.pure rfl (PO.move (v := .slice a_15 ((readI ((linesOf t).getD i [])).2.1.length) c_16) rfl) ?_
          refine JL.op rfl (JO.buildSlice (ps := [(0, .slice a_15 ((readI ((linesOf t).getD i [])).2.1.length) c_16)]) (cur := #[.slice a_15 ((readI ((linesOf t).getD i [])).2.1.length) c_16]) Tryz.underlying82 Tryz.sizeOf49 Tryz.zeroValue49 rfl (by kernel_rfl) (by decide) (by decide)) ?_
          rintro _ _ ⟨a_19, rfl, rfl⟩
          refine JL.op rfl (JO.append' 3 (q := 1) (news := ([(⟨⟨a_15, c_16⟩, ⟨(readI ((linesOf t).getD i [])).2.1⟩⟩ : RX)] : List RX).flatMap encR) (n' := (y ++ ([(⟨⟨a_15, c_16⟩, ⟨(readI ((linesOf t).getD i [])).2.1⟩⟩ : RX)] : List RX)).length) (cs' := (y ++ ([(⟨⟨a_15, c_16⟩, ⟨(readI ((linesOf t).getD i [])).2.1⟩⟩ : RX)] : List RX)).flatMap encR) rfl Tryz.underlying82 Tryz.underlying82 Tryz.typeInfo49 rfl (by' := 24) rfl rfl rfl rfl rfl (fun w hw => Src.sees (hw.see (i := 0) rfl) (oneR _)) (by (try simp only [List.length_append, List.length_cons, List.length_nil, List.length_take, List.length_drop]); omega) (by (try simp only [List.length_append, List.length_cons, List.length_nil, List.length_take, List.length_drop]); omega) (by simp only [List.length_append, List.length_take, List.length_drop, List.length_cons, List.length_nil] <;> first | rfl | omega) (by simp only [List.flatMap_append])) ?_
          rintro _ _ ⟨a_20, c_21, rfl, rfl⟩
          refine JL.pure rfl (PO.assign (v := .slice a_20 ((y ++ ([(⟨⟨a_15, c_16⟩, ⟨(readI ((linesOf t).getD i [])).2.1⟩⟩ : RX)] : List RX)).length) c_21) rfl) ?_
          refine JL.nil ?_
          refine JQ.seq ?_
          refine JC.region ?_
          refine JL.pure rfl (PO.move (v := .int .i64 ((n : Nat) : Int)) he_11) ?_
          refine JL.pure rfl (PO.move (v := .slice a_3 ((linesOf t).length) c_4) he_10) ?_
          refine JL.pure rfl (PO.move (v := .int .i64 ((i : Nat) : Int)) he_12) ?_
          refine JL.pure rfl (PO.indexAddrV (i := i) Tryz.underlying71 Tryz.sizeOf9 hr_14 hr_14b rfl rfl (by omega)) ?_
          refine JL.ld rfl (LO.loadR1 4 (v := str ((linesOf t).getD i [])) rfl rfl Tryz.isAgg9 (atS (by omega))) ?_
          refine JL.pure rfl (PO.lenS Tryz.underlying9 rfl) ?_
          refine JL.pure rfl (PO.add (c := ((n + (((linesOf t).getD i []).length) : Nat) : Int)) rfl rfl (wr (by omega))) ?_
          refine JL.pure rfl (PO.assign (v := .int .i64 ((n + (((linesOf t).getD i []).length) : Nat) : Int)) rfl) ?_
          refine JL.nil ?_
          refine JQ.blockN ?_
          refine JQ.seq ?_
          refine JC.region ?_
          refine JL.pure rfl (PO.move (v := .int .i64 ((i : Nat) : Int)) he_12) ?_
          refine JL.pure rfl (PO.add (c := ((i + 1 : Nat) : Int)) rfl rfl (wr (by omega))) ?_
          refine JL.pure rfl (PO.assign (v := .int .i64 ((i + 1 : Nat) : Int)) rfl) ?_
          refine JL.nil ?_
          refine JQ.ghost (L' := [Res.rows (rdsR (⟨⟨a_15, c_16⟩, ⟨(readI ((linesOf t).getD i [])).2.1⟩⟩ : RX)), Res.row (.slice a_19 1 1) 49 1 1 (([(⟨⟨a_15, c_16⟩, ⟨(readI ((linesOf t).getD i [])).2.1⟩⟩ : RX)] : List RX).flatMap encR), Res.rows (y.flatMap rdsR), Res.row (.slice a_20 ((y ++ ([(⟨⟨a_15, c_16⟩, ⟨(readI ((linesOf t).getD i [])).2.1⟩⟩ : RX)] : List RX)).length) c_21) 49 1 ((y ++ ([(⟨⟨a_15, c_16⟩, ⟨(readI ((linesOf t).getD i [])).2.1⟩⟩ : RX)] : List RX)).length) ((y ++ ([(⟨⟨a_15, c_16⟩, ⟨(readI ((linesOf t).getD i [])).2.1⟩⟩ : RX)] : List RX)).flatMap encR), rS a_3 c_4 (linesOf t)]) (fun w hw => hw.closeR (A := rdsR (⟨⟨a_15, c_16⟩, ⟨(readI ((linesOf t).getD i [])).2.1⟩⟩ : RX)) [1] rfl) ?_
          refine JQ.ghost (L' := [Res.rows ((y ++ [(⟨⟨a_15, c_16⟩, ⟨(readI ((linesOf t).getD i [])).2.1⟩⟩ : RX)]).flatMap rdsR), Res.row (.slice a_19 1 1) 49 1 1 (([(⟨⟨a_15, c_16⟩, ⟨(readI ((linesOf t).getD i [])).2.1⟩⟩ : RX)] : List RX).flatMap encR), Res.row (.slice a_20 ((y ++ ([(⟨⟨a_15, c_16⟩, ⟨(readI ((linesOf t).getD i [])).2.1⟩⟩ : RX)] : List RX)).length) c_21) 49 1 ((y ++ ([(⟨⟨a_15, c_16⟩, ⟨(readI ((linesOf t).getD i [])).2.1⟩⟩ : RX)] : List RX)).length) ((y ++ ([(⟨⟨a_15, c_16⟩, ⟨(readI ((linesOf t).getD i [])).2.1⟩⟩ : RX)] : List RX)).flatMap encR), rS a_3 c_4 (linesOf t)]) (fun w hw => hw.addR [2, 0] rfl flatMap_snoc) ?_
          refine JQ.pick [0, 1, 1] (A := [Res.rows ((y ++ [(⟨⟨a_15, c_16⟩, ⟨(readI ((linesOf t).getD i [])).2.1⟩⟩ : RX)]).flatMap rdsR), Res.row (.slice a_20 ((y ++ ([(⟨⟨a_15, c_16⟩, ⟨(readI ((linesOf t).getD i [])).2.1⟩⟩ : RX)] : List RX)).length) c_21) 49 1 ((y ++ [(⟨⟨a_15, c_16⟩, ⟨(readI ((linesOf t).getD i [])).2.1⟩⟩ : RX)]).length) ((y ++ [(⟨⟨a_15, c_16⟩, ⟨(readI ((linesOf t).getD i [])).2.1⟩⟩ : RX)]).flatMap encR), rS a_3 c_4 (linesOf t)]) rfl ?_
          refine JQ.again ((linesOf t).length - (i + 1)) (by omega) ⟨i + 1, n + (((linesOf t).getD i []).length), a_20, c_21, (y ++ [(⟨⟨a_15, c_16⟩, ⟨(readI ((linesOf t).getD i [])).2.1⟩⟩ : RX)]), by omega, (by simp only [List.length_append, List.length_cons, List.length_nil]; omega), by omega, (by have h_ := recs_take hlt h_17 (by omega) hR; rw [List.map_append, List.length_append]; exact h_), he_6, he_7, he_8, rfl, he_10, rfl, rfl, rfl, rfl⟩
        · skip
          refine JL.guardOn rfl rfl rfl (congrArg Value.bool (congrArg Bool.not (decide_eq_false h_18))) (JO.ofLO (LO.pure (PO.move (v := .slice ya y.length yc) he_9))) ?_
          rintro _ _ ⟨rfl, rfl⟩
          refine JL.guardOn rfl rfl rfl (congrArg Value.bool (congrArg Bool.not (decide_eq_false h_18))) (JO.ofLO (LO.pure (PO.lenV Tryz.underlying82 rfl))) ?_
          rintro _ _ ⟨rfl, rfl⟩
          refine JL.guardOn rfl rfl rfl (congrArg Value.bool (congrArg Bool.not (decide_eq_false h_18))) (JO.ofLO (LO.pure (PO.gtr rfl rfl))) ?_
          rintro _ _ ⟨rfl, rfl⟩
          refine JL.guardOn rfl rfl rfl (congrArg Value.bool (congrArg Bool.not (decide_eq_false h_18))) (JO.ofLO (LO.pure (PO.move (v := .bool (decide (0 < ((y.length : Nat) : Int)))) rfl))) ?_
          rintro _ _ ⟨rfl, rfl⟩
          by_cases h_22 : 0 < ((y.length : Nat) : Int)
          · skip
            refine JL.guardOff (b := true) rfl rfl rfl (congrArg Value.bool (decide_eq_true h_22)) ?_
            refine JL.guardOff (b := true) rfl rfl rfl (congrArg Value.bool (decide_eq_true h_22)) ?_
            refine JL.guardOff (b := true) rfl rfl rfl (congrArg Value.bool (decide_eq_true h_22)) ?_
            refine JL.guardOn rfl rfl rfl (congrArg Value.bool (congrArg Bool.not (decide_eq_false h_18))) (JO.ofLO (LO.pure (PO.pickT (v := .bool true) (congrArg Value.bool (decide_eq_true h_22)) rfl))) ?_
            rintro _ _ ⟨rfl, rfl⟩
            refine JL.guardOn rfl rfl rfl (congrArg Value.bool (congrArg Bool.not h_17)) (JO.ofLO (LO.pure (PO.pickT (v := .bool true) (congrArg Value.bool (congrArg Bool.not (decide_eq_false h_18))) rfl))) ?_
            rintro _ _ ⟨rfl, rfl⟩
            refine JL.pure rfl (PO.pickF (v := .bool true) (congrArg Value.bool (congrArg Bool.not h_17)) rfl) ?_
            refine JL.nil ?_
            refine JQ.seq ?_
            refine JC.condT (congrArg Value.bool rfl) ?_
            refine JC.exit ?_
            refine JQ.thenExit ?_
            refine JQ.blockO rfl ?_
            refine JQ.thenExit ?_
            refine JQ.thenExit ?_
            refine JQ.blockE ?_
            refine JQ.seq ?_
            refine JC.seq ?_
            refine JC.region ?_
            refine JL.pure rfl (PO.move (v := .slice ya y.length yc) he_9) ?_
            refine JL.pure rfl (PO.move (v := .int .i64 ((n : Nat) : Int)) he_11) ?_
            refine JL.pure rfl (PO.assign (v := .slice ya y.length yc) rfl) ?_
            refine JL.pure rfl (PO.assign (v := .int .i64 ((n : Nat) : Int)) rfl) ?_
            refine JL.nil ?_
            refine JQ.seq ?_
            refine JC.ret ?_
            refine JQ.ghost (L' := [Res.rows (rdsRS ya yc y), Res.row (.slice a_15 ((readI ((linesOf t).getD i [])).2.1.length) c_16) 48 2 (((readI ((linesOf t).getD i [])).2.1).length) (((readI ((linesOf t).getD i [])).2.1).flatMap encC), rS a_3 c_4 (linesOf t)]) (fun w hw => hw.consR (r := ⟨.slice ya y.length yc, 49, 1, y.length, y.flatMap encR⟩) (A := y.flatMap rdsR) [2, 1] rfl) ?_
            refine Done.two (.inl rfl) rfl (RV.tmp (v := .slice ya y.length yc) rfl) (RV.tmp (v := .int .i64 ((n : Nat) : Int)) rfl) (List.sublist_append_left [Res.rows (rdsRS ya yc y)] [Res.row (.slice a_15 ((readI ((linesOf t).getD i [])).2.1.length) c_16) 48 2 (((readI ((linesOf t).getD i [])).2.1).length) (((readI ((linesOf t).getD i [])).2.1).flatMap encC), rS a_3 c_4 (linesOf t)]) ?_
            have he := recs_stop hlt h_17 (by omega) (by omega) hR
            exact ⟨ya, yc, y, by rw [he], by rw [he], rfl⟩
          · skip
            refine JL.guardOn rfl rfl rfl (congrArg Value.bool (decide_eq_false h_22)) (JO.ofLO (LO.pure (PO.move (v := .int .i64 ((readI ((linesOf t).getD i [])).1)) rfl))) ?_
            rintro _ _ ⟨rfl, rfl⟩
            refine JL.guardOn rfl rfl rfl (congrArg Value.bool (decide_eq_false h_22)) (JO.ofLO (LO.pure (PO.move (v := .int .i64 f) he_6))) ?_
            rintro _ _ ⟨rfl, rfl⟩
            refine JL.guardOn rfl rfl rfl (congrArg Value.bool (decide_eq_false h_22)) (JO.ofLO (LO.pure (PO.gtr rfl rfl))) ?_
            rintro _ _ ⟨rfl, rfl⟩
            refine JL.guardOn rfl rfl rfl (congrArg Value.bool (congrArg Bool.not (decide_eq_false h_18))) (JO.ofLO (LO.pure (PO.pickF (v := .bool (decide (f < ((readI ((linesOf t).getD i [])).1)))) (congrArg Value.bool (decide_eq_false h_22)) rfl))) ?_
            rintro _ _ ⟨rfl, rfl⟩
            refine JL.guardOn rfl rfl rfl (congrArg Value.bool (congrArg Bool.not h_17)) (JO.ofLO (LO.pure (PO.pickT (v := .bool (decide (f < ((readI ((linesOf t).getD i [])).1)))) (congrArg Value.bool (congrArg Bool.not (decide_eq_false h_18))) rfl))) ?_
            rintro _ _ ⟨rfl, rfl⟩
            refine JL.pure rfl (PO.pickF (v := .bool (decide (f < ((readI ((linesOf t).getD i [])).1)))) (congrArg Value.bool (congrArg Bool.not h_17)) rfl) ?_
            refine JL.nil ?_
            refine JQ.seq ?_
            by_cases h_23 : f < ((readI ((linesOf t).getD i [])).1)
            · skip
              refine JC.condT (congrArg Value.bool (decide_eq_true h_23)) ?_
              refine JC.exit ?_
              refine JQ.thenExit ?_
              refine JQ.blockO rfl ?_
              refine JQ.thenExit ?_
              refine JQ.thenExit ?_
              refine JQ.blockE ?_
              refine JQ.seq ?_
              refine JC.seq ?_
              refine JC.region ?_
              refine JL.pure rfl (PO.move (v := .slice ya y.length yc) he_9) ?_
              refine JL.pure rfl (PO.move (v := .int .i64 ((n : Nat) : Int)) he_11) ?_
              refine JL.pure rfl (PO.assign (v := .slice ya y.length yc) rfl) ?_
              refine JL.pure rfl (PO.assign (v := .int .i64 ((n : Nat) : Int)) rfl) ?_
              refine JL.nil ?_
              refine JQ.seq ?_
              refine JC.ret ?_
              refine JQ.ghost (L' := [Res.rows (rdsRS ya yc y), Res.row (.slice a_15 ((readI ((linesOf t).getD i [])).2.1.length) c_16) 48 2 (((readI ((linesOf t).getD i [])).2.1).length) (((readI ((linesOf t).getD i [])).2.1).flatMap encC), rS a_3 c_4 (linesOf t)]) (fun w hw => hw.consR (r := ⟨.slice ya y.length yc, 49, 1, y.length, y.flatMap encR⟩) (A := y.flatMap rdsR) [2, 1] rfl) ?_
              refine Done.two (.inl rfl) rfl (RV.tmp (v := .slice ya y.length yc) rfl) (RV.tmp (v := .int .i64 ((n : Nat) : Int)) rfl) (List.sublist_append_left [Res.rows (rdsRS ya yc y)] [Res.row (.slice a_15 ((readI ((linesOf t).getD i [])).2.1.length) c_16) 48 2 (((readI ((linesOf t).getD i [])).2.1).length) (((readI ((linesOf t).getD i [])).2.1).flatMap encC), rS a_3 c_4 (linesOf t)]) ?_
              have he := recs_stop hlt h_17 (by omega) (by omega) hR
              exact ⟨ya, yc, y, by rw [he], by rw [he], rfl⟩
            · skip
              refine JC.condF (congrArg Value.bool (decide_eq_false h_23)) ?_
              refine JC.skip ?_
              refine JQ.seq ?_
              refine JC.seq ?_
              refine JC.seq ?_
              refine JC.region ?_
              refine JL.pure rfl (PO.move (v := .int .i64 ((readI ((linesOf t).getD i [])).1)) rfl) ?_
              refine JL.pure rfl (PO.move (v := .int .i64 f) he_6) ?_
              refine JL.pure rfl (PO.move (v := .slice ya y.length yc) he_9) ?_
              refine JL.pure rfl (PO.lenV Tryz.underlying82 rfl) ?_
              refine JL.pure rfl (PO.add (c := f + ((y.length : Nat) : Int)) rfl rfl (wr (by omega))) ?_
              refine JL.pure rfl (PO.eqlI rfl rfl) ?_
              refine JL.nil ?_
              refine JQ.seq ?_
              refine JC.condF (congrArg Value.bool (decide_eq_false h_18)) ?_
              refine JC.skip ?_
              refine JQ.seq ?_
              refine JC.region ?_
              refine JL.pure rfl (PO.move (v := .int .i64 ((n : Nat) : Int)) he_11) ?_
              refine JL.pure rfl (PO.move (v := .slice a_3 ((linesOf t).length) c_4) he_10) ?_
              refine JL.pure rfl (PO.move (v := .int .i64 ((i : Nat) : Int)) he_12) ?_
              refine JL.pure rfl (PO.indexAddrV (i := i) Tryz.underlying71 Tryz.sizeOf9 hr_14 hr_14b rfl rfl (by omega)) ?_
              refine JL.ld rfl (LO.loadR1 3 (v := str ((linesOf t).getD i [])) rfl rfl Tryz.isAgg9 (atS (by omega))) ?_
              refine JL.pure rfl (PO.lenS Tryz.underlying9 rfl) ?_
              refine JL.pure rfl (PO.add (c := ((n + (((linesOf t).getD i []).length) : Nat) : Int)) rfl rfl (wr (by omega))) ?_
              refine JL.pure rfl (PO.assign (v := .int .i64 ((n + (((linesOf t).getD i []).length) : Nat) : Int)) rfl) ?_
              refine JL.nil ?_
              refine JQ.blockN ?_
              refine JQ.seq ?_
              refine JC.region ?_
              refine JL.pure rfl (PO.move (v := .int .i64 ((i : Nat) : Int)) he_12) ?_
              refine JL.pure rfl (PO.add (c := ((i + 1 : Nat) : Int)) rfl rfl (wr (by omega))) ?_
              refine JL.pure rfl (PO.assign (v := .int .i64 ((i + 1 : Nat) : Int)) rfl) ?_
              refine JL.nil ?_
              refine JQ.pick [1, 1, 1] (A := [Res.rows (y.flatMap rdsR), Res.row (.slice ya y.length yc) 49 1 y.length (y.flatMap encR), rS a_3 c_4 (linesOf t)]) rfl ?_
              refine JQ.again ((linesOf t).length - (i + 1)) (by omega) ⟨i + 1, n + (((linesOf t).getD i []).length), ya, yc, y, by omega, by omega, by omega, (recs_skip hlt h_17 (by omega) hR), he_6, he_7, he_8, he_9, he_10, rfl, rfl, rfl, rfl⟩
      · skip
        refine JL.guardOff (b := true) rfl rfl rfl (congrArg Value.bool (congrArg Bool.not h_17)) ?_
        refine JL.guardOff (b := true) rfl rfl rfl (congrArg Value.bool (congrArg Bool.not h_17)) ?_
        refine JL.guardOff (b := true) rfl rfl rfl (congrArg Value.bool (congrArg Bool.not h_17)) ?_
        refine JL.guardOff (b := true) rfl rfl rfl (congrArg Value.bool (congrArg Bool.not h_17)) ?_
        refine JL.guardOff (b := true) rfl rfl rfl (congrArg Value.bool (congrArg Bool.not h_17)) ?_
        refine JL.guardOff (b := true) rfl rfl rfl (congrArg Value.bool (congrArg Bool.not h_17)) ?_
        refine JL.guardOff (b := true) rfl rfl rfl (congrArg Value.bool (congrArg Bool.not h_17)) ?_
        refine JL.guardOffU rfl rfl rfl rfl ?_
        refine JL.guardOffU rfl rfl rfl rfl ?_
        refine JL.guardOffU rfl rfl rfl rfl ?_
        refine JL.guardOffU rfl rfl rfl rfl ?_
        refine JL.guardOffU rfl rfl rfl rfl ?_
        refine JL.guardOffU rfl rfl rfl rfl ?_
        refine JL.guardOffU rfl rfl rfl rfl ?_
        refine JL.guardOffU rfl rfl rfl rfl ?_
        refine JL.guardOff (b := true) rfl rfl rfl (congrArg Value.bool (congrArg Bool.not h_17)) ?_
        refine JL.pure rfl (PO.pickT (v := .bool true) (congrArg Value.bool (congrArg Bool.not h_17)) rfl) ?_
        refine JL.nil ?_
        refine JQ.seq ?_
        refine JC.condT (congrArg Value.bool rfl) ?_
        refine JC.exit ?_
        refine JQ.thenExit ?_
        refine JQ.blockO rfl ?_
        refine JQ.thenExit ?_
        refine JQ.thenExit ?_
        refine JQ.blockE ?_
        refine JQ.seq ?_
        refine JC.seq ?_
        refine JC.region ?_
        refine JL.pure rfl (PO.move (v := .slice ya y.length yc) he_9) ?_
        refine JL.pure rfl (PO.move (v := .int .i64 ((n : Nat) : Int)) he_11) ?_
        refine JL.pure rfl (PO.assign (v := .slice ya y.length yc) rfl) ?_
        refine JL.pure rfl (PO.assign (v := .int .i64 ((n : Nat) : Int)) rfl) ?_
        refine JL.nil ?_
        refine JQ.seq ?_
        refine JC.ret ?_
        refine JQ.ghost (L' := [Res.rows (rdsRS ya yc y), Res.row (.slice a_15 ((readI ((linesOf t).getD i [])).2.1.length) c_16) 48 2 (((readI ((linesOf t).getD i [])).2.1).length) (((readI ((linesOf t).getD i [])).2.1).flatMap encC), rS a_3 c_4 (linesOf t)]) (fun w hw => hw.consR (r := ⟨.slice ya y.length yc, 49, 1, y.length, y.flatMap encR⟩) (A := y.flatMap rdsR) [2, 1] rfl) ?_
        refine Done.two (.inl rfl) rfl (RV.tmp (v := .slice ya y.length yc) rfl) (RV.tmp (v := .int .i64 ((n : Nat) : Int)) rfl) (List.sublist_append_left [Res.rows (rdsRS ya yc y)] [Res.row (.slice a_15 ((readI ((linesOf t).getD i [])).2.1.length) c_16) 48 2 (((readI ((linesOf t).getD i [])).2.1).length) (((readI ((linesOf t).getD i [])).2.1).flatMap encC), rS a_3 c_4 (linesOf t)]) ?_
        have he := recs_bad hlt h_17 hR
        exact ⟨ya, yc, y, by rw [he], by rw [he], rfl⟩
    · skip
      refine JC.condF (congrArg Value.bool (decide_eq_false h_13)) ?_
      refine JC.exit ?_
      refine JQ.thenExit ?_
      refine JQ.thenExit ?_
      refine JQ.blockE ?_
      refine JQ.seq ?_
      refine JC.seq ?_
      refine JC.region ?_
      refine JL.pure rfl (PO.move (v := .slice ya y.length yc) he_9) ?_
      refine JL.pure rfl (PO.move (v := .int .i64 ((n : Nat) : Int)) he_11) ?_
      refine JL.pure rfl (PO.assign (v := .slice ya y.length yc) rfl) ?_
      refine JL.pure rfl (PO.assign (v := .int .i64 ((n : Nat) : Int)) rfl) ?_
      refine JL.nil ?_
      refine JQ.seq ?_
      refine JC.ret ?_
      refine JQ.ghost (L' := [Res.rows (rdsRS ya yc y), rS a_3 c_4 (linesOf t)]) (fun w hw => hw.consR (r := ⟨.slice ya y.length yc, 49, 1, y.length, y.flatMap encR⟩) (A := y.flatMap rdsR) [1, 0] rfl) ?_
      refine Done.two (.inl rfl) rfl (RV.tmp (v := .slice ya y.length yc) rfl) (RV.tmp (v := .int .i64 ((n : Nat) : Int)) rfl) (List.sublist_append_left [Res.rows (rdsRS ya yc y)] [rS a_3 c_4 (linesOf t)]) ?_
      have he := recs_end (by omega) hR
      exact ⟨ya, yc, y, by rw [he], by rw [he], rfl⟩
  · skip
    refine JC.condT (congrArg Value.bool (congrArg Bool.not h_2)) ?_
    refine JC.seq ?_
    refine JC.region ?_
    refine JL.pure rfl (PO.move (v := .slice a_1 0 0) rfl) ?_
    refine JL.pure rfl (PO.assign (v := .slice a_1 0 0) rfl) ?_
    refine JL.pure rfl (PO.assign (v := .int .i64 0) rfl) ?_
    refine JL.nil ?_
    refine JQ.seq ?_
    refine JC.ret ?_
    refine JQ.thenRet ?_
    refine JQ.ghost (L' := [Res.rows (rdsRS a_1 0 ([] : List RX))]) (fun w hw => hw.closeR (A := rdsRS a_1 0 ([] : List RX)) [0] rfl) ?_
    refine Done.two (.inl rfl) rfl (RV.tmp (v := .slice a_1 0 0) rfl) (RV.tmp (v := .int .i64 0) rfl) (List.Sublist.refl _) ?_
    have he : recsOf t f = ([], 0) := by rw [recsOf, if_neg (by rw [h_2]; exact Bool.false_ne_true)]
    exact ⟨a_1, 0, [], by rw [he]; rfl, by rw [he] <;> rfl, rfl⟩

end Go.Proofs.YtjncpgcccgdeiaaGreatDoor
