/-
  The laws' own helpers on calls and answers (part 28).
-/
import Derived.Test.YtkmpmjficoohkaaGreatAu0
import Derived.Test.YtkmpmjficoohkaaGreatDatL0
set_option linter.unusedSimpArgs false
set_option linter.unusedVariables false
set_option linter.unnecessarySimpa false
namespace Go.Proofs.YtkmpmjficoohkaaGreat
open Go Go.RowKit
theorem szMach_le (m : MS) : szMach m 1048576 ≤ 1048576 := by
  unfold szMach
  split
  · omega
  · rename_i h1
    have hs := szCellS_le m.s 1048576 (by omega)
    split
    · omega
    · unfold szTouch
      split
      · omega
      · rename_i h3
        have hr := szStringS_le m.r (szCellS m.s 1048576) (by omega)
        split
        · omega
        · have hw := szStringS_le m.w (szStringS m.r (szCellS m.s 1048576)) (by omega)
          omega
attribute [local irreducible] JL JC JQ JO LO PO JA JX Ct

theorem N_szCall (c : CL) (left : Int) (hc : c.ok 9223372036854775807) (hleft : -9223372036854775808 ≤ left ∧ left ≤ 9223372036854775807) (hl0 : 0 ≤ left) :
    Ct Tryz.prog 110 [.agg #[.int .i64 c.kind, str c.name, str c.to_, .int .i64 c.a, .int .i64 c.b, str c.text], .int .i64 left] ([]) (fun _ => True) (fun v A' => ∃ r0, szCallF c left = r0 ∧ v = .int .i64 r0 ∧ A' = []) := by
  refine Ct.intro Tryz.func110 rfl Tryz.ntmps110 (Nat.le_of_ble_eq_true rfl) fun w0 hpre => ?_
  obtain ⟨hc1, hc2, hc3, hc4, hc5, hc6⟩ := id hc
  refine JC.seq ?_
  refine JC.region ?_
  refine JL.op rfl (JO.box (cs := [.int .i64 c.kind, str c.name, str c.to_, .int .i64 c.a, .int .i64 c.b, str c.text]) rfl rfl) ?_
  rintro _ _ ⟨b_1, rfl, rfl⟩
  refine JL.pure rfl (PO.assign (v := .int .i64 0) rfl) ?_
  refine JL.nil ?_
  refine JQ.seq ?_
  refine JC.seq ?_
  refine JC.region ?_
  refine JL.pure rfl (PO.move (v := .int .i64 left) rfl) ?_
  refine JL.pure rfl (PO.fieldAddr fo148_1 rfl) ?_
  refine JL.ld rfl (LO.load1 0 (v := str c.name) rfl rfl Tryz.isAgg9 rfl) ?_
  refine JL.pure rfl (PO.lenS Tryz.underlying9 rfl) ?_
  refine JL.pure rfl (PO.sub (c := left - (c.name.length : Int)) rfl rfl (wr (by omega))) ?_
  refine JL.pure rfl (PO.assign (v := .int .i64 (left - (c.name.length : Int))) rfl) ?_
  refine JL.nil ?_
  refine JQ.seq ?_
  refine JC.seq ?_
  refine JC.seq ?_
  refine JC.region ?_
  refine JL.pure rfl (PO.move (v := .int .i64 (left - (c.name.length : Int))) rfl) ?_
  refine JL.pure rfl (PO.lss rfl rfl) ?_
  refine JL.nil ?_
  refine JQ.seq ?_
  by_cases h_2 : (left - (c.name.length : Int)) < 0
  · skip
    refine JC.condT (congrArg Value.bool (decide_eq_true h_2)) ?_
    refine JC.seq ?_
    refine JC.region ?_
    refine JL.pure rfl (PO.assign (v := .int .i64 (-1)) rfl) ?_
    refine JL.nil ?_
    refine JQ.seq ?_
    refine JC.ret ?_
    refine JQ.thenRet ?_
    refine Done.one (.inl rfl) rfl (RV.tmp (v := .int .i64 (-1)) rfl) (List.nil_sublist _) ?_
    exact ⟨(-1), (by simp only [szCallF, h_2, if_true, if_false, Bool.false_eq_true, Bool.not_true, Bool.not_false]; (repeat (first | rw [if_pos (by omega)] | rw [if_neg (by omega)])); all_goals (first | rfl | simp only [if_true, if_false, Bool.false_eq_true, Bool.not_true, Bool.not_false, h_2])), rfl, rfl⟩
  · skip
    refine JC.condF (congrArg Value.bool (decide_eq_false h_2)) ?_
    refine JC.skip ?_
    refine JQ.seq ?_
    refine JC.seq ?_
    refine JC.region ?_
    refine JL.pure rfl (PO.move (v := .int .i64 (left - (c.name.length : Int))) rfl) ?_
    refine JL.pure rfl (PO.fieldAddr fo148_2 rfl) ?_
    refine JL.ld rfl (LO.load1 0 (v := str c.to_) rfl rfl Tryz.isAgg9 rfl) ?_
    refine JL.pure rfl (PO.lenS Tryz.underlying9 rfl) ?_
    refine JL.pure rfl (PO.sub (c := (left - (c.name.length : Int)) - (c.to_.length : Int)) rfl rfl (wr (by omega))) ?_
    refine JL.pure rfl (PO.assign (v := .int .i64 ((left - (c.name.length : Int)) - (c.to_.length : Int))) rfl) ?_
    refine JL.nil ?_
    refine JQ.seq ?_
    refine JC.seq ?_
    refine JC.seq ?_
    refine JC.region ?_
    refine JL.pure rfl (PO.move (v := .int .i64 ((left - (c.name.length : Int)) - (c.to_.length : Int))) rfl) ?_
    refine JL.pure rfl (PO.lss rfl rfl) ?_
    refine JL.nil ?_
    refine JQ.seq ?_
    by_cases h_3 : ((left - (c.name.length : Int)) - (c.to_.length : Int)) < 0
    · skip
      refine JC.condT (congrArg Value.bool (decide_eq_true h_3)) ?_
      refine JC.seq ?_
      refine JC.region ?_
      refine JL.pure rfl (PO.assign (v := .int .i64 (-1)) rfl) ?_
      refine JL.nil ?_
      refine JQ.seq ?_
      refine JC.ret ?_
      refine JQ.thenRet ?_
      refine Done.one (.inl rfl) rfl (RV.tmp (v := .int .i64 (-1)) rfl) (List.nil_sublist _) ?_
      exact ⟨(-1), (by simp only [szCallF, h_2, h_3, if_true, if_false, Bool.false_eq_true, Bool.not_true, Bool.not_false]; (repeat (first | rw [if_pos (by omega)] | rw [if_neg (by omega)])); all_goals (first | rfl | simp only [if_true, if_false, Bool.false_eq_true, Bool.not_true, Bool.not_false, h_2, h_3])), rfl, rfl⟩
    · skip
      refine JC.condF (congrArg Value.bool (decide_eq_false h_3)) ?_
      refine JC.skip ?_
      refine JQ.seq ?_
      refine JC.seq ?_
      refine JC.region ?_
      refine JL.pure rfl (PO.move (v := .int .i64 ((left - (c.name.length : Int)) - (c.to_.length : Int))) rfl) ?_
      refine JL.pure rfl (PO.fieldAddr fo148_5 rfl) ?_
      refine JL.ld rfl (LO.load1 0 (v := str c.text) rfl rfl Tryz.isAgg9 rfl) ?_
      refine JL.pure rfl (PO.lenS Tryz.underlying9 rfl) ?_
      refine JL.pure rfl (PO.sub (c := ((left - (c.name.length : Int)) - (c.to_.length : Int)) - (c.text.length : Int)) rfl rfl (wr (by omega))) ?_
      refine JL.pure rfl (PO.assign (v := .int .i64 (((left - (c.name.length : Int)) - (c.to_.length : Int)) - (c.text.length : Int))) rfl) ?_
      refine JL.nil ?_
      refine JQ.seq ?_
      refine JC.seq ?_
      refine JC.seq ?_
      refine JC.region ?_
      refine JL.pure rfl (PO.move (v := .int .i64 (((left - (c.name.length : Int)) - (c.to_.length : Int)) - (c.text.length : Int))) rfl) ?_
      refine JL.pure rfl (PO.lss rfl rfl) ?_
      refine JL.nil ?_
      refine JQ.seq ?_
      by_cases h_4 : (((left - (c.name.length : Int)) - (c.to_.length : Int)) - (c.text.length : Int)) < 0
      · skip
        refine JC.condT (congrArg Value.bool (decide_eq_true h_4)) ?_
        refine JC.seq ?_
        refine JC.region ?_
        refine JL.pure rfl (PO.assign (v := .int .i64 (-1)) rfl) ?_
        refine JL.nil ?_
        refine JQ.seq ?_
        refine JC.ret ?_
        refine JQ.thenRet ?_
        refine Done.one (.inl rfl) rfl (RV.tmp (v := .int .i64 (-1)) rfl) (List.nil_sublist _) ?_
        exact ⟨(-1), (by simp only [szCallF, h_2, h_3, h_4, if_true, if_false, Bool.false_eq_true, Bool.not_true, Bool.not_false]; (repeat (first | rw [if_pos (by omega)] | rw [if_neg (by omega)])); all_goals (first | rfl | simp only [if_true, if_false, Bool.false_eq_true, Bool.not_true, Bool.not_false, h_2, h_3, h_4])), rfl, rfl⟩
      · skip
        refine JC.condF (congrArg Value.bool (decide_eq_false h_4)) ?_
        refine JC.skip ?_
        refine JQ.seq ?_
        refine JC.seq ?_
        refine JC.region ?_
        refine JL.pure rfl (PO.move (v := .int .i64 (((left - (c.name.length : Int)) - (c.to_.length : Int)) - (c.text.length : Int))) rfl) ?_
        refine JL.pure rfl (PO.assign (v := .int .i64 (((left - (c.name.length : Int)) - (c.to_.length : Int)) - (c.text.length : Int))) rfl) ?_
        refine JL.nil ?_
        refine JQ.seq ?_
        refine JC.ret ?_
        refine Done.one (.inl rfl) rfl (RV.tmp (v := .int .i64 (((left - (c.name.length : Int)) - (c.to_.length : Int)) - (c.text.length : Int))) rfl) (List.nil_sublist _) ?_
        exact ⟨(((left - (c.name.length : Int)) - (c.to_.length : Int)) - (c.text.length : Int)), (by simp only [szCallF, h_2, h_3, h_4, if_true, if_false, Bool.false_eq_true, Bool.not_true, Bool.not_false]; (repeat (first | rw [if_pos (by omega)] | rw [if_neg (by omega)])); all_goals (first | rfl | simp only [if_true, if_false, Bool.false_eq_true, Bool.not_true, Bool.not_false, h_2, h_3, h_4])), rfl, rfl⟩

theorem N_toCall (c : CL) :
    Ct Tryz.prog 112 [.agg #[.int .i64 c.kind, str c.name, str c.to_, .int .i64 c.a, .int .i64 c.b, str c.text]] [] (fun _ => True) (fun v A' => v = .agg #[.int .i64 c.kind, str c.name, str c.to_, .int .i64 c.a, .int .i64 c.b, str c.text] ∧ A' = []) := by
  refine Ct.intro Tryz.func112 rfl Tryz.ntmps112 (Nat.le_of_ble_eq_true rfl) fun w0 hpre => ?_
  refine JC.seq ?_
  refine JC.region ?_
  refine JL.op rfl (JO.box (cs := [.int .i64 c.kind, str c.name, str c.to_, .int .i64 c.a, .int .i64 c.b, str c.text]) rfl rfl) ?_
  rintro _ _ ⟨b_1, rfl, rfl⟩
  refine JL.op rfl (JO.alloc (z := .agg #[.int .i64 0, str [], str [], .int .i64 0, .int .i64 0, str []]) (cs := [.int .i64 0, str [], str [], .int .i64 0, .int .i64 0, str []]) Tryz.zeroValue152 rfl) ?_
  rintro _ _ ⟨b_2, rfl, rfl⟩
  refine JL.nil ?_
  refine JQ.seq ?_
  refine JC.seq ?_
  refine JC.region ?_
  refine JL.op rfl (JO.alloc (z := .agg #[.int .i64 0, str [], str [], .int .i64 0, .int .i64 0, str []]) (cs := [.int .i64 0, str [], str [], .int .i64 0, .int .i64 0, str []]) Tryz.zeroValue152 rfl) ?_
  rintro _ _ ⟨b_3, rfl, rfl⟩
  refine JL.nil ?_
  refine JQ.seq ?_
  refine JC.seq ?_
  refine JC.region ?_
  refine JL.pure rfl (PO.fieldAddr fo148_0 rfl) ?_
  refine JL.ld rfl (LO.load1 2 (v := .int .i64 c.kind) rfl rfl Tryz.isAgg3 rfl) ?_
  refine JL.pure rfl (PO.fieldAddr fo152_0 rfl) ?_
  refine JL.op rfl (JO.store 0 (vs := [.int .i64 c.kind]) (cs' := [.int .i64 c.kind, str [], str [], .int .i64 0, .int .i64 0, str []]) rfl rfl rfl rfl Tryz.sizeOf3 rfl rfl (Nat.le_of_ble_eq_true rfl) rfl) ?_
  rintro _ _ rfl
  refine JL.nil ?_
  refine JQ.seq ?_
  refine JC.seq ?_
  refine JC.region ?_
  refine JL.pure rfl (PO.fieldAddr fo148_1 rfl) ?_
  refine JL.ld rfl (LO.load1 2 (v := str c.name) rfl rfl Tryz.isAgg9 rfl) ?_
  refine JL.pure rfl (PO.fieldAddr fo152_1 rfl) ?_
  refine JL.op rfl (JO.store 0 (vs := [str c.name]) (cs' := [.int .i64 c.kind, str c.name, str [], .int .i64 0, .int .i64 0, str []]) rfl rfl rfl rfl Tryz.sizeOf9 rfl rfl (Nat.le_of_ble_eq_true rfl) rfl) ?_
  rintro _ _ rfl
  refine JL.nil ?_
  refine JQ.seq ?_
  refine JC.seq ?_
  refine JC.region ?_
  refine JL.pure rfl (PO.fieldAddr fo148_2 rfl) ?_
  refine JL.ld rfl (LO.load1 2 (v := str c.to_) rfl rfl Tryz.isAgg9 rfl) ?_
  refine JL.pure rfl (PO.fieldAddr fo152_2 rfl) ?_
  refine JL.op rfl (JO.store 0 (vs := [str c.to_]) (cs' := [.int .i64 c.kind, str c.name, str c.to_, .int .i64 0, .int .i64 0, str []]) rfl rfl rfl rfl Tryz.sizeOf9 rfl rfl (Nat.le_of_ble_eq_true rfl) rfl) ?_
  rintro _ _ rfl
  refine JL.nil ?_
  refine JQ.seq ?_
  refine JC.seq ?_
  refine JC.region ?_
  refine JL.pure rfl (PO.fieldAddr fo148_3 rfl) ?_
  refine JL.ld rfl (LO.load1 2 (v := .int .i64 c.a) rfl rfl Tryz.isAgg3 rfl) ?_
  refine JL.pure rfl (PO.fieldAddr fo152_3 rfl) ?_
  refine JL.op rfl (JO.store 0 (vs := [.int .i64 c.a]) (cs' := [.int .i64 c.kind, str c.name, str c.to_, .int .i64 c.a, .int .i64 0, str []]) rfl rfl rfl rfl Tryz.sizeOf3 rfl rfl (Nat.le_of_ble_eq_true rfl) rfl) ?_
  rintro _ _ rfl
  refine JL.nil ?_
  refine JQ.seq ?_
  refine JC.seq ?_
  refine JC.region ?_
  refine JL.pure rfl (PO.fieldAddr fo148_4 rfl) ?_
  refine JL.ld rfl (LO.load1 2 (v := .int .i64 c.b) rfl rfl Tryz.isAgg3 rfl) ?_
  refine JL.pure rfl (PO.fieldAddr fo152_4 rfl) ?_
  refine JL.op rfl (JO.store 0 (vs := [.int .i64 c.b]) (cs' := [.int .i64 c.kind, str c.name, str c.to_, .int .i64 c.a, .int .i64 c.b, str []]) rfl rfl rfl rfl Tryz.sizeOf3 rfl rfl (Nat.le_of_ble_eq_true rfl) rfl) ?_
  rintro _ _ rfl
  refine JL.nil ?_
  refine JQ.seq ?_
  refine JC.seq ?_
  refine JC.region ?_
  refine JL.pure rfl (PO.fieldAddr fo148_5 rfl) ?_
  refine JL.ld rfl (LO.load1 2 (v := str c.text) rfl rfl Tryz.isAgg9 rfl) ?_
  refine JL.pure rfl (PO.fieldAddr fo152_5 rfl) ?_
  refine JL.op rfl (JO.store 0 (vs := [str c.text]) (cs' := [.int .i64 c.kind, str c.name, str c.to_, .int .i64 c.a, .int .i64 c.b, str c.text]) rfl rfl rfl rfl Tryz.sizeOf9 rfl rfl (Nat.le_of_ble_eq_true rfl) rfl) ?_
  rintro _ _ rfl
  refine JL.nil ?_
  refine JQ.seq ?_
  refine JC.seq ?_
  refine JC.region ?_
  refine JL.ld rfl (LO.loadK 0 (vs := [.int .i64 c.kind, str c.name, str c.to_, .int .i64 c.a, .int .i64 c.b, str c.text]) rfl rfl Tryz.isAgg152 Tryz.sizeOf152 rfl rfl) ?_
  refine JL.op rfl (JO.store 1 (vs := [.int .i64 c.kind, str c.name, str c.to_, .int .i64 c.a, .int .i64 c.b, str c.text]) (cs' := [.int .i64 c.kind, str c.name, str c.to_, .int .i64 c.a, .int .i64 c.b, str c.text]) rfl rfl rfl rfl Tryz.sizeOf152 rfl rfl (Nat.le_of_ble_eq_true rfl) rfl) ?_
  rintro _ _ rfl
  refine JL.nil ?_
  refine JQ.seq ?_
  refine JC.ret ?_
  refine Done.one (.inl rfl) rfl (RV.cell1 (LO.loadK 1 (vs := [.int .i64 c.kind, str c.name, str c.to_, .int .i64 c.a, .int .i64 c.b, str c.text]) rfl rfl Tryz.isAgg152 Tryz.sizeOf152 rfl rfl) ⟨_, rfl⟩) (List.nil_sublist _) ?_
  exact ⟨rfl, rfl⟩

theorem N_eqAnswer (a : AN) :
    Ct Tryz.prog 121 [.agg #[.int .i64 a.code, .int .i64 a.n, str a.text], .agg #[.int .i64 a.code, .int .i64 a.n, str a.text]] [] (fun _ => True) (fun v A' => v = .bool true ∧ A' = []) := by
  refine Ct.intro Tryz.func121 rfl Tryz.ntmps121 (Nat.le_of_ble_eq_true rfl) fun w0 hpre => ?_
  refine JC.seq ?_
  refine JC.region ?_
  refine JL.op rfl (JO.box (cs := [.int .i64 a.code, .int .i64 a.n, str a.text]) rfl rfl) ?_
  rintro _ _ ⟨b_1, rfl, rfl⟩
  refine JL.op rfl (JO.box (cs := [.int .i64 a.code, .int .i64 a.n, str a.text]) rfl rfl) ?_
  rintro _ _ ⟨b_2, rfl, rfl⟩
  refine JL.pure rfl (PO.assign (v := .bool false) rfl) ?_
  refine JL.nil ?_
  refine JQ.seq ?_
  refine JC.seq ?_
  refine JC.seq ?_
  refine JC.region ?_
  refine JL.pure rfl (PO.fieldAddr fo154_0 rfl) ?_
  refine JL.ld rfl (LO.load1 1 (v := .int .i64 a.code) rfl rfl Tryz.isAgg3 rfl) ?_
  refine JL.pure rfl (PO.fieldAddr fo154_0 rfl) ?_
  refine JL.ld rfl (LO.load1 0 (v := .int .i64 a.code) rfl rfl Tryz.isAgg3 rfl) ?_
  refine JL.pure rfl (PO.neqI rfl rfl) ?_
  refine JL.nil ?_
  refine JQ.seq ?_
  refine JC.condF (congrArg Value.bool (congrArg Bool.not (decide_eq_true rfl))) ?_
  refine JC.skip ?_
  refine JQ.seq ?_
  refine JC.seq ?_
  refine JC.seq ?_
  refine JC.region ?_
  refine JL.pure rfl (PO.fieldAddr fo154_1 rfl) ?_
  refine JL.ld rfl (LO.load1 1 (v := .int .i64 a.n) rfl rfl Tryz.isAgg3 rfl) ?_
  refine JL.pure rfl (PO.fieldAddr fo154_1 rfl) ?_
  refine JL.ld rfl (LO.load1 0 (v := .int .i64 a.n) rfl rfl Tryz.isAgg3 rfl) ?_
  refine JL.pure rfl (PO.neqI rfl rfl) ?_
  refine JL.nil ?_
  refine JQ.seq ?_
  refine JC.condF (congrArg Value.bool (congrArg Bool.not (decide_eq_true rfl))) ?_
  refine JC.skip ?_
  refine JQ.seq ?_
  refine JC.seq ?_
  refine JC.seq ?_
  refine JC.region ?_
  refine JL.pure rfl (PO.fieldAddr fo154_2 rfl) ?_
  refine JL.ld rfl (LO.load1 1 (v := str a.text) rfl rfl Tryz.isAgg9 rfl) ?_
  refine JL.pure rfl (PO.fieldAddr fo154_2 rfl) ?_
  refine JL.ld rfl (LO.load1 0 (v := str a.text) rfl rfl Tryz.isAgg9 rfl) ?_
  refine JL.pure rfl (PO.neqS rfl rfl) ?_
  refine JL.nil ?_
  refine JQ.seq ?_
  refine JC.condF (congrArg Value.bool (congrArg Bool.not (decide_eq_true rfl))) ?_
  refine JC.skip ?_
  refine JQ.seq ?_
  refine JC.seq ?_
  refine JC.region ?_
  refine JL.pure rfl (PO.assign (v := .bool true) rfl) ?_
  refine JL.nil ?_
  refine JQ.seq ?_
  refine JC.ret ?_
  refine Done.one (.inl rfl) rfl (RV.tmp (v := .bool true) rfl) (List.nil_sublist _) ?_
  exact ⟨rfl, rfl⟩

end Go.Proofs.YtkmpmjficoohkaaGreat
