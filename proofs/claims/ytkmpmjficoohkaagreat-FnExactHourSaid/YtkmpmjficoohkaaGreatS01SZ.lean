/-
  The laws' own measures and copies: sz.., to.. (part 1).
-/
import Derived.Test.YtkmpmjficoohkaaGreatFo
set_option linter.unusedSimpArgs false
set_option linter.unusedVariables false
set_option linter.unnecessarySimpa false
namespace Go.Proofs.YtkmpmjficoohkaaGreat
open Go Go.RowKit
attribute [local irreducible] JL JC JQ JO LO PO JA JX Ct

def szCell (k v : Str) (l : Int) : Int := if l - k.length < 0 then -1 else if l - k.length - v.length < 0 then -1 else l - k.length - v.length

theorem C_szCell (k v : Str) (l : Int) (h0 : 0 ≤ l) (h1 : l ≤ 1048576) (hk : k.length ≤ 9223372036854775807) (hv : v.length ≤ 9223372036854775807) :
    Ct Tryz.prog 82 [.agg #[str k, str v], .int .i64 l] [] (fun _ => True) (fun r A' => r = .int .i64 (szCell k v l) ∧ A' = []) := by
  refine Ct.intro Tryz.func82 rfl Tryz.ntmps82 (Nat.le_of_ble_eq_true rfl) fun w0 hpre => ?_
  refine JC.seq ?_
  refine JC.region ?_
  refine JL.op rfl (JO.box (cs := [str k, str v]) rfl rfl) ?_
  rintro _ _ ⟨b_1, rfl, rfl⟩
  refine JL.pure rfl (PO.assign (v := .int .i64 0) rfl) ?_
  refine JL.nil ?_
  refine JQ.seq ?_
  refine JC.seq ?_
  refine JC.region ?_
  refine JL.pure rfl (PO.move (v := .int .i64 l) rfl) ?_
  refine JL.pure rfl (PO.fieldAddr fo118_0 rfl) ?_
  refine JL.ld rfl (LO.load1 0 (v := str k) rfl rfl Tryz.isAgg9 rfl) ?_
  refine JL.pure rfl (PO.lenS Tryz.underlying9 rfl) ?_
  refine JL.pure rfl (PO.sub (c := l - (k.length : Int)) rfl rfl (wr (by omega))) ?_
  refine JL.pure rfl (PO.assign (v := .int .i64 (l - (k.length : Int))) rfl) ?_
  refine JL.nil ?_
  refine JQ.seq ?_
  refine JC.seq ?_
  refine JC.seq ?_
  refine JC.region ?_
  refine JL.pure rfl (PO.move (v := .int .i64 (l - (k.length : Int))) rfl) ?_
  refine JL.pure rfl (PO.lss rfl rfl) ?_
  refine JL.nil ?_
  refine JQ.seq ?_
  by_cases h_2 : (l - (k.length : Int)) < 0
  · skip
    refine JC.condT (congrArg Value.bool (decide_eq_true h_2)) ?_
    refine JC.seq ?_
    refine JC.region ?_
    refine JL.pure rfl (PO.assign (v := .int .i64 (-1)) rfl) ?_
    refine JL.nil ?_
    refine JQ.seq ?_
    refine JC.ret ?_
    refine JQ.thenRet ?_
    refine Done.one (.inl rfl) rfl (RV.tmp (v := .int .i64 (-1)) rfl) (List.nil_sublist _) ?_
    refine ⟨?_, rfl⟩
    simp only [szCell]
    congr 1
    first | rw [if_pos (by omega)] | (rw [if_neg (by omega)]; first | rw [if_pos (by omega)] | rw [if_neg (by omega)])
  · skip
    refine JC.condF (congrArg Value.bool (decide_eq_false h_2)) ?_
    refine JC.skip ?_
    refine JQ.seq ?_
    refine JC.seq ?_
    refine JC.region ?_
    refine JL.pure rfl (PO.move (v := .int .i64 (l - (k.length : Int))) rfl) ?_
    refine JL.pure rfl (PO.fieldAddr fo118_1 rfl) ?_
    refine JL.ld rfl (LO.load1 0 (v := str v) rfl rfl Tryz.isAgg9 rfl) ?_
    refine JL.pure rfl (PO.lenS Tryz.underlying9 rfl) ?_
    refine JL.pure rfl (PO.sub (c := (l - (k.length : Int)) - (v.length : Int)) rfl rfl (wr (by omega))) ?_
    refine JL.pure rfl (PO.assign (v := .int .i64 ((l - (k.length : Int)) - (v.length : Int))) rfl) ?_
    refine JL.nil ?_
    refine JQ.seq ?_
    refine JC.seq ?_
    refine JC.seq ?_
    refine JC.region ?_
    refine JL.pure rfl (PO.move (v := .int .i64 ((l - (k.length : Int)) - (v.length : Int))) rfl) ?_
    refine JL.pure rfl (PO.lss rfl rfl) ?_
    refine JL.nil ?_
    refine JQ.seq ?_
    by_cases h_3 : ((l - (k.length : Int)) - (v.length : Int)) < 0
    · skip
      refine JC.condT (congrArg Value.bool (decide_eq_true h_3)) ?_
      refine JC.seq ?_
      refine JC.region ?_
      refine JL.pure rfl (PO.assign (v := .int .i64 (-1)) rfl) ?_
      refine JL.nil ?_
      refine JQ.seq ?_
      refine JC.ret ?_
      refine JQ.thenRet ?_
      refine Done.one (.inl rfl) rfl (RV.tmp (v := .int .i64 (-1)) rfl) (List.nil_sublist _) ?_
      refine ⟨?_, rfl⟩
      simp only [szCell]
      congr 1
      first | rw [if_pos (by omega)] | (rw [if_neg (by omega)]; first | rw [if_pos (by omega)] | rw [if_neg (by omega)])
    · skip
      refine JC.condF (congrArg Value.bool (decide_eq_false h_3)) ?_
      refine JC.skip ?_
      refine JQ.seq ?_
      refine JC.seq ?_
      refine JC.region ?_
      refine JL.pure rfl (PO.move (v := .int .i64 ((l - (k.length : Int)) - (v.length : Int))) rfl) ?_
      refine JL.pure rfl (PO.assign (v := .int .i64 ((l - (k.length : Int)) - (v.length : Int))) rfl) ?_
      refine JL.nil ?_
      refine JQ.seq ?_
      refine JC.ret ?_
      refine Done.one (.inl rfl) rfl (RV.tmp (v := .int .i64 ((l - (k.length : Int)) - (v.length : Int))) rfl) (List.nil_sublist _) ?_
      refine ⟨?_, rfl⟩
      simp only [szCell]
      congr 1
      first | rw [if_pos (by omega)] | (rw [if_neg (by omega)]; first | rw [if_pos (by omega)] | rw [if_neg (by omega)])

theorem C_toCell (k v : Str) :
    Ct Tryz.prog 89 [.agg #[str k, str v]] [] (fun _ => True) (fun r A' => r = .agg #[str k, str v] ∧ A' = []) := by
  refine Ct.intro Tryz.func89 rfl Tryz.ntmps89 (Nat.le_of_ble_eq_true rfl) fun w0 hpre => ?_
  refine JC.seq ?_
  refine JC.region ?_
  refine JL.op rfl (JO.box (cs := [str k, str v]) rfl rfl) ?_
  rintro _ _ ⟨b_1, rfl, rfl⟩
  refine JL.op rfl (JO.alloc (z := .agg #[str [], str []]) (cs := [str [], str []]) Tryz.zeroValue131 rfl) ?_
  rintro _ _ ⟨b_2, rfl, rfl⟩
  refine JL.nil ?_
  refine JQ.seq ?_
  refine JC.seq ?_
  refine JC.region ?_
  refine JL.op rfl (JO.alloc (z := .agg #[str [], str []]) (cs := [str [], str []]) Tryz.zeroValue131 rfl) ?_
  rintro _ _ ⟨b_3, rfl, rfl⟩
  refine JL.nil ?_
  refine JQ.seq ?_
  refine JC.seq ?_
  refine JC.region ?_
  refine JL.pure rfl (PO.fieldAddr fo118_0 rfl) ?_
  refine JL.ld rfl (LO.load1 2 (v := str k) rfl rfl Tryz.isAgg9 rfl) ?_
  refine JL.pure rfl (PO.fieldAddr fo131_0 rfl) ?_
  refine JL.op rfl (JO.store 0 (vs := [str k]) (cs' := [str k, str []]) rfl rfl rfl rfl Tryz.sizeOf9 rfl rfl (Nat.le_of_ble_eq_true rfl) rfl) ?_
  rintro _ _ rfl
  refine JL.nil ?_
  refine JQ.seq ?_
  refine JC.seq ?_
  refine JC.region ?_
  refine JL.pure rfl (PO.fieldAddr fo118_1 rfl) ?_
  refine JL.ld rfl (LO.load1 2 (v := str v) rfl rfl Tryz.isAgg9 rfl) ?_
  refine JL.pure rfl (PO.fieldAddr fo131_1 rfl) ?_
  refine JL.op rfl (JO.store 0 (vs := [str v]) (cs' := [str k, str v]) rfl rfl rfl rfl Tryz.sizeOf9 rfl rfl (Nat.le_of_ble_eq_true rfl) rfl) ?_
  rintro _ _ rfl
  refine JL.nil ?_
  refine JQ.seq ?_
  refine JC.seq ?_
  refine JC.region ?_
  refine JL.ld rfl (LO.loadK 0 (vs := [str k, str v]) rfl rfl Tryz.isAgg131 Tryz.sizeOf131 rfl rfl) ?_
  refine JL.op rfl (JO.store 1 (vs := [str k, str v]) (cs' := [str k, str v]) rfl rfl rfl rfl Tryz.sizeOf131 rfl rfl (Nat.le_of_ble_eq_true rfl) rfl) ?_
  rintro _ _ rfl
  refine JL.nil ?_
  refine JQ.seq ?_
  refine JC.ret ?_
  refine Done.one (.inl rfl) rfl (RV.cell1 (LO.loadK 1 (vs := [str k, str v]) rfl rfl Tryz.isAgg131 Tryz.sizeOf131 rfl rfl) ⟨_, rfl⟩) (List.nil_sublist _) ?_
  exact ⟨rfl, rfl⟩

theorem C_eqCell (k v k2 v2 : Str) :
    Ct Tryz.prog 98 [.agg #[str k, str v], .agg #[str k2, str v2]] [] (fun _ => True) (fun r A' => r = .bool (decide (k = k2) && decide (v = v2)) ∧ A' = []) := by
  refine Ct.intro Tryz.func98 rfl Tryz.ntmps98 (Nat.le_of_ble_eq_true rfl) fun w0 hpre => ?_
  refine JC.seq ?_
  refine JC.region ?_
  refine JL.op rfl (JO.box (cs := [str k, str v]) rfl rfl) ?_
  rintro _ _ ⟨b_1, rfl, rfl⟩
  refine JL.op rfl (JO.box (cs := [str k2, str v2]) rfl rfl) ?_
  rintro _ _ ⟨b_2, rfl, rfl⟩
  refine JL.pure rfl (PO.assign (v := .bool false) rfl) ?_
  refine JL.nil ?_
  refine JQ.seq ?_
  refine JC.seq ?_
  refine JC.seq ?_
  refine JC.region ?_
  refine JL.pure rfl (PO.fieldAddr fo131_0 rfl) ?_
  refine JL.ld rfl (LO.load1 1 (v := str k) rfl rfl Tryz.isAgg9 rfl) ?_
  refine JL.pure rfl (PO.fieldAddr fo131_0 rfl) ?_
  refine JL.ld rfl (LO.load1 0 (v := str k2) rfl rfl Tryz.isAgg9 rfl) ?_
  refine JL.pure rfl (PO.neqS rfl rfl) ?_
  refine JL.nil ?_
  refine JQ.seq ?_
  by_cases h_3 : k = k2
  · skip
    refine JC.condF (congrArg Value.bool (congrArg Bool.not (decide_eq_true h_3))) ?_
    refine JC.skip ?_
    refine JQ.seq ?_
    refine JC.seq ?_
    refine JC.seq ?_
    refine JC.region ?_
    refine JL.pure rfl (PO.fieldAddr fo131_1 rfl) ?_
    refine JL.ld rfl (LO.load1 1 (v := str v) rfl rfl Tryz.isAgg9 rfl) ?_
    refine JL.pure rfl (PO.fieldAddr fo131_1 rfl) ?_
    refine JL.ld rfl (LO.load1 0 (v := str v2) rfl rfl Tryz.isAgg9 rfl) ?_
    refine JL.pure rfl (PO.neqS rfl rfl) ?_
    refine JL.nil ?_
    refine JQ.seq ?_
    by_cases h_4 : v = v2
    · skip
      refine JC.condF (congrArg Value.bool (congrArg Bool.not (decide_eq_true h_4))) ?_
      refine JC.skip ?_
      refine JQ.seq ?_
      refine JC.seq ?_
      refine JC.region ?_
      refine JL.pure rfl (PO.assign (v := .bool true) rfl) ?_
      refine JL.nil ?_
      refine JQ.seq ?_
      refine JC.ret ?_
      refine Done.one (.inl rfl) rfl (RV.tmp (v := .bool true) rfl) (List.nil_sublist _) ?_
      refine ⟨?_, rfl⟩
      simp [*]
    · skip
      refine JC.condT (congrArg Value.bool (congrArg Bool.not (decide_eq_false h_4))) ?_
      refine JC.seq ?_
      refine JC.region ?_
      refine JL.pure rfl (PO.assign (v := .bool false) rfl) ?_
      refine JL.nil ?_
      refine JQ.seq ?_
      refine JC.ret ?_
      refine JQ.thenRet ?_
      refine Done.one (.inl rfl) rfl (RV.tmp (v := .bool false) rfl) (List.nil_sublist _) ?_
      refine ⟨?_, rfl⟩
      simp [*]
  · skip
    refine JC.condT (congrArg Value.bool (congrArg Bool.not (decide_eq_false h_3))) ?_
    refine JC.seq ?_
    refine JC.region ?_
    refine JL.pure rfl (PO.assign (v := .bool false) rfl) ?_
    refine JL.nil ?_
    refine JQ.seq ?_
    refine JC.ret ?_
    refine JQ.thenRet ?_
    refine Done.one (.inl rfl) rfl (RV.tmp (v := .bool false) rfl) (List.nil_sublist _) ?_
    refine ⟨?_, rfl⟩
    simp [*]

end Go.Proofs.YtkmpmjficoohkaaGreat
