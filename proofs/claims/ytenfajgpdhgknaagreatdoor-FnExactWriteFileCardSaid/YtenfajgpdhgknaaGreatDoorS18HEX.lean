/-
  Hexadecimal texts, messages (part 18).
-/
import Derived.Test.YtenfajgpdhgknaaGreatDoorSx
import Derived.Test.YtenfajgpdhgknaaGreatDoorS13KEYS
import Derived.Test.YtenfajgpdhgknaaGreatDoorDatD
set_option linter.unusedSimpArgs false
set_option linter.unusedVariables false
set_option linter.unnecessarySimpa false
namespace Go.Proofs.YtenfajgpdhgknaaGreatDoor
open Go Go.RowKit
attribute [local irreducible] JL JC JQ JO LO PO JA JX Ct

theorem N_figure (k : Nat) (h : k < 16) :
    Ct Tryz.prog 285 [.int .i64 ((k : Nat) : Int)] [] (fun _ => True) (fun v A' => v = .int .u8 (((hexFig k).toNat : Nat) : Int) ∧ A' = []) := by
  refine Ct.intro Tryz.func285 rfl Tryz.ntmps285 (Nat.le_of_ble_eq_true rfl) fun w0 hpre => ?_
  refine JC.seq ?_
  refine JC.region ?_
  refine JL.pure rfl (PO.assign (v := .int .u8 0) rfl) ?_
  refine JL.nil ?_
  refine JQ.seq ?_
  refine JC.seq ?_
  refine JC.seq ?_
  refine JC.region ?_
  refine JL.pure rfl (PO.move (v := .int .i64 ((k : Nat) : Int)) rfl) ?_
  refine JL.pure rfl (PO.lss rfl rfl) ?_
  refine JL.nil ?_
  refine JQ.seq ?_
  by_cases h_1 : ((k : Nat) : Int) < 10
  · skip
    refine JC.condT (congrArg Value.bool (decide_eq_true h_1)) ?_
    refine JC.seq ?_
    refine JC.region ?_
    refine JL.pure rfl (PO.move (v := .int .i64 ((k : Nat) : Int)) rfl) ?_
    refine JL.pure rfl (PO.add (c := ((48 + k : Nat) : Int)) rfl rfl (wr (by omega))) ?_
    refine JL.pure rfl (PO.convI (c := (((UInt8.ofNat (48 + k)).toNat : Nat) : Int)) Tryz.underlying3 Tryz.underlying5 rfl (wr8u (c := UInt8.ofNat (48 + k)) (by omega) (by rw [Int.toNat_natCast]))) ?_
    refine JL.pure rfl (PO.assign (v := .int .u8 (((UInt8.ofNat (48 + k)).toNat : Nat) : Int)) rfl) ?_
    refine JL.nil ?_
    refine JQ.seq ?_
    refine JC.ret ?_
    refine JQ.thenRet ?_
    refine Done.one (.inl rfl) rfl (RV.tmp (v := .int .u8 (((UInt8.ofNat (48 + k)).toNat : Nat) : Int)) rfl) (List.nil_sublist _) ?_
    refine ⟨?_, rfl⟩
    exact congrArg (fun q : Nat => Value.int .u8 (q : Int)) (by first | (rw [hexFig_lo (by omega), UInt8.toNat_ofNat_of_lt' (by show _ < 256; omega)]) | (rw [hexFig_hi (by omega) (by omega), UInt8.toNat_ofNat_of_lt' (by show _ < 256; omega)]; omega))
  · skip
    refine JC.condF (congrArg Value.bool (decide_eq_false h_1)) ?_
    refine JC.skip ?_
    refine JQ.seq ?_
    refine JC.seq ?_
    refine JC.region ?_
    refine JL.pure rfl (PO.move (v := .int .i64 ((k : Nat) : Int)) rfl) ?_
    refine JL.pure rfl (PO.add (c := ((97 + k : Nat) : Int)) rfl rfl (wr (by omega))) ?_
    refine JL.pure rfl (PO.sub (c := ((97 + k : Nat) : Int) - 10) rfl rfl (wr (by omega))) ?_
    refine JL.pure rfl (PO.convI (c := (((UInt8.ofNat (((97 + k : Nat) : Int) - 10).toNat).toNat : Nat) : Int)) Tryz.underlying3 Tryz.underlying5 rfl (wr8u (by omega) rfl)) ?_
    refine JL.pure rfl (PO.assign (v := .int .u8 (((UInt8.ofNat (((97 + k : Nat) : Int) - 10).toNat).toNat : Nat) : Int)) rfl) ?_
    refine JL.nil ?_
    refine JQ.seq ?_
    refine JC.ret ?_
    refine Done.one (.inl rfl) rfl (RV.tmp (v := .int .u8 (((UInt8.ofNat (((97 + k : Nat) : Int) - 10).toNat).toNat : Nat) : Int)) rfl) (List.nil_sublist _) ?_
    refine ⟨?_, rfl⟩
    exact congrArg (fun q : Nat => Value.int .u8 (q : Int)) (by first | (rw [hexFig_lo (by omega), UInt8.toNat_ofNat_of_lt' (by show _ < 256; omega)]) | (rw [hexFig_hi (by omega) (by omega), UInt8.toNat_ofNat_of_lt' (by show _ < 256; omega)]; omega))

theorem N_value (c : UInt8) :
    Ct Tryz.prog 277 [.int .u8 ((c.toNat : Nat) : Int)] [] (fun _ => True) (fun v A' => ∃ r0, hexV c = r0 ∧ (-1 ≤ r0 ∧ r0 ≤ 15) ∧ v = .int .i64 r0 ∧ A' = []) := by
  have hc8 := UInt8.toNat_lt c
  refine Ct.intro Tryz.func277 rfl Tryz.ntmps277 (Nat.le_of_ble_eq_true rfl) fun w0 hpre => ?_
  refine JC.seq ?_
  refine JC.region ?_
  refine JL.pure rfl (PO.assign (v := .int .i64 0) rfl) ?_
  refine JL.nil ?_
  refine JQ.seq ?_
  refine JC.seq ?_
  refine JC.seq ?_
  refine JC.region ?_
  refine JL.pure rfl (PO.move (v := .int .u8 ((c.toNat : Nat) : Int)) rfl) ?_
  refine JL.pure rfl (PO.geq rfl rfl) ?_
  refine JL.pure rfl (PO.move (v := .bool (decide (48 ≤ ((c.toNat : Nat) : Int)))) rfl) ?_
  by_cases h_1 : 48 ≤ ((c.toNat : Nat) : Int)
  · skip
    refine JL.guardOn rfl rfl rfl (congrArg Value.bool (decide_eq_true h_1)) (JO.ofLO (LO.pure (PO.move (v := .int .u8 ((c.toNat : Nat) : Int)) rfl))) ?_
    rintro _ _ ⟨rfl, rfl⟩
    refine JL.guardOn rfl rfl rfl (congrArg Value.bool (decide_eq_true h_1)) (JO.ofLO (LO.pure (PO.leq rfl rfl))) ?_
    rintro _ _ ⟨rfl, rfl⟩
    refine JL.pure rfl (PO.pickT (v := .bool (decide (((c.toNat : Nat) : Int) ≤ 57))) (congrArg Value.bool (decide_eq_true h_1)) rfl) ?_
    refine JL.nil ?_
    refine JQ.seq ?_
    by_cases h_2 : ((c.toNat : Nat) : Int) ≤ 57
    · skip
      refine JC.condT (congrArg Value.bool (decide_eq_true h_2)) ?_
      refine JC.seq ?_
      refine JC.region ?_
      refine JL.pure rfl (PO.move (v := .int .u8 ((c.toNat : Nat) : Int)) rfl) ?_
      refine JL.pure rfl (PO.convI (c := ((c.toNat : Nat) : Int)) Tryz.underlying5 Tryz.underlying3 rfl (wr (by omega))) ?_
      refine JL.pure rfl (PO.sub (c := ((c.toNat : Nat) : Int) - 48) rfl rfl (wr (by omega))) ?_
      refine JL.pure rfl (PO.assign (v := .int .i64 (((c.toNat : Nat) : Int) - 48)) rfl) ?_
      refine JL.nil ?_
      refine JQ.seq ?_
      refine JC.ret ?_
      refine JQ.thenRet ?_
      refine Done.one (.inl rfl) rfl (RV.tmp (v := .int .i64 (((c.toNat : Nat) : Int) - 48)) rfl) (List.nil_sublist _) ?_
      refine ⟨_, ?_, ?_, rfl, rfl⟩
      · first | exact hexV_a (by omega) (by omega) | exact hexV_b (by omega) (by omega) | exact hexV_c (by omega) (by omega)
      · omega
    · skip
      refine JC.condF (congrArg Value.bool (decide_eq_false h_2)) ?_
      refine JC.skip ?_
      refine JQ.seq ?_
      refine JC.seq ?_
      refine JC.seq ?_
      refine JC.region ?_
      refine JL.pure rfl (PO.move (v := .int .u8 ((c.toNat : Nat) : Int)) rfl) ?_
      refine JL.pure rfl (PO.geq rfl rfl) ?_
      refine JL.pure rfl (PO.move (v := .bool (decide (97 ≤ ((c.toNat : Nat) : Int)))) rfl) ?_
      by_cases h_3 : 97 ≤ ((c.toNat : Nat) : Int)
      · skip
        refine JL.guardOn rfl rfl rfl (congrArg Value.bool (decide_eq_true h_3)) (JO.ofLO (LO.pure (PO.move (v := .int .u8 ((c.toNat : Nat) : Int)) rfl))) ?_
        rintro _ _ ⟨rfl, rfl⟩
        refine JL.guardOn rfl rfl rfl (congrArg Value.bool (decide_eq_true h_3)) (JO.ofLO (LO.pure (PO.leq rfl rfl))) ?_
        rintro _ _ ⟨rfl, rfl⟩
        refine JL.pure rfl (PO.pickT (v := .bool (decide (((c.toNat : Nat) : Int) ≤ 102))) (congrArg Value.bool (decide_eq_true h_3)) rfl) ?_
        refine JL.nil ?_
        refine JQ.seq ?_
        by_cases h_4 : ((c.toNat : Nat) : Int) ≤ 102
        · skip
          refine JC.condT (congrArg Value.bool (decide_eq_true h_4)) ?_
          refine JC.seq ?_
          refine JC.region ?_
          refine JL.pure rfl (PO.move (v := .int .u8 ((c.toNat : Nat) : Int)) rfl) ?_
          refine JL.pure rfl (PO.convI (c := ((c.toNat : Nat) : Int)) Tryz.underlying5 Tryz.underlying3 rfl (wr (by omega))) ?_
          refine JL.pure rfl (PO.sub (c := ((c.toNat : Nat) : Int) - 97) rfl rfl (wr (by omega))) ?_
          refine JL.pure rfl (PO.add (c := (((c.toNat : Nat) : Int) - 97) + 10) rfl rfl (wr (by omega))) ?_
          refine JL.pure rfl (PO.assign (v := .int .i64 ((((c.toNat : Nat) : Int) - 97) + 10)) rfl) ?_
          refine JL.nil ?_
          refine JQ.seq ?_
          refine JC.ret ?_
          refine JQ.thenRet ?_
          refine Done.one (.inl rfl) rfl (RV.tmp (v := .int .i64 ((((c.toNat : Nat) : Int) - 97) + 10)) rfl) (List.nil_sublist _) ?_
          refine ⟨_, ?_, ?_, rfl, rfl⟩
          · first | exact hexV_a (by omega) (by omega) | exact hexV_b (by omega) (by omega) | exact hexV_c (by omega) (by omega)
          · omega
        · skip
          refine JC.condF (congrArg Value.bool (decide_eq_false h_4)) ?_
          refine JC.skip ?_
          refine JQ.seq ?_
          refine JC.seq ?_
          refine JC.region ?_
          refine JL.pure rfl (PO.assign (v := .int .i64 (-1)) rfl) ?_
          refine JL.nil ?_
          refine JQ.seq ?_
          refine JC.ret ?_
          refine Done.one (.inl rfl) rfl (RV.tmp (v := .int .i64 (-1)) rfl) (List.nil_sublist _) ?_
          refine ⟨_, ?_, ?_, rfl, rfl⟩
          · first | exact hexV_a (by omega) (by omega) | exact hexV_b (by omega) (by omega) | exact hexV_c (by omega) (by omega)
          · omega
      · skip
        refine JL.guardOff (b := false) rfl rfl rfl (congrArg Value.bool (decide_eq_false h_3)) ?_
        refine JL.guardOff (b := false) rfl rfl rfl (congrArg Value.bool (decide_eq_false h_3)) ?_
        refine JL.pure rfl (PO.pickF (v := .bool false) (congrArg Value.bool (decide_eq_false h_3)) rfl) ?_
        refine JL.nil ?_
        refine JQ.seq ?_
        refine JC.condF (congrArg Value.bool rfl) ?_
        refine JC.skip ?_
        refine JQ.seq ?_
        refine JC.seq ?_
        refine JC.region ?_
        refine JL.pure rfl (PO.assign (v := .int .i64 (-1)) rfl) ?_
        refine JL.nil ?_
        refine JQ.seq ?_
        refine JC.ret ?_
        refine Done.one (.inl rfl) rfl (RV.tmp (v := .int .i64 (-1)) rfl) (List.nil_sublist _) ?_
        refine ⟨_, ?_, ?_, rfl, rfl⟩
        · first | exact hexV_a (by omega) (by omega) | exact hexV_b (by omega) (by omega) | exact hexV_c (by omega) (by omega)
        · omega
  · skip
    refine JL.guardOff (b := false) rfl rfl rfl (congrArg Value.bool (decide_eq_false h_1)) ?_
    refine JL.guardOff (b := false) rfl rfl rfl (congrArg Value.bool (decide_eq_false h_1)) ?_
    refine JL.pure rfl (PO.pickF (v := .bool false) (congrArg Value.bool (decide_eq_false h_1)) rfl) ?_
    refine JL.nil ?_
    refine JQ.seq ?_
    refine JC.condF (congrArg Value.bool rfl) ?_
    refine JC.skip ?_
    refine JQ.seq ?_
    refine JC.seq ?_
    refine JC.seq ?_
    refine JC.region ?_
    refine JL.pure rfl (PO.move (v := .int .u8 ((c.toNat : Nat) : Int)) rfl) ?_
    refine JL.pure rfl (PO.geq rfl rfl) ?_
    refine JL.pure rfl (PO.move (v := .bool (decide (97 ≤ ((c.toNat : Nat) : Int)))) rfl) ?_
    by_cases h_5 : 97 ≤ ((c.toNat : Nat) : Int)
    · skip
      refine JL.guardOn rfl rfl rfl (congrArg Value.bool (decide_eq_true h_5)) (JO.ofLO (LO.pure (PO.move (v := .int .u8 ((c.toNat : Nat) : Int)) rfl))) ?_
      rintro _ _ ⟨rfl, rfl⟩
      refine JL.guardOn rfl rfl rfl (congrArg Value.bool (decide_eq_true h_5)) (JO.ofLO (LO.pure (PO.leq rfl rfl))) ?_
      rintro _ _ ⟨rfl, rfl⟩
      refine JL.pure rfl (PO.pickT (v := .bool (decide (((c.toNat : Nat) : Int) ≤ 102))) (congrArg Value.bool (decide_eq_true h_5)) rfl) ?_
      refine JL.nil ?_
      refine JQ.seq ?_
      by_cases h_6 : ((c.toNat : Nat) : Int) ≤ 102
      · skip
        refine JC.condT (congrArg Value.bool (decide_eq_true h_6)) ?_
        refine JC.seq ?_
        refine JC.region ?_
        refine JL.pure rfl (PO.move (v := .int .u8 ((c.toNat : Nat) : Int)) rfl) ?_
        refine JL.pure rfl (PO.convI (c := ((c.toNat : Nat) : Int)) Tryz.underlying5 Tryz.underlying3 rfl (wr (by omega))) ?_
        refine JL.pure rfl (PO.sub (c := ((c.toNat : Nat) : Int) - 97) rfl rfl (wr (by omega))) ?_
        refine JL.pure rfl (PO.add (c := (((c.toNat : Nat) : Int) - 97) + 10) rfl rfl (wr (by omega))) ?_
        refine JL.pure rfl (PO.assign (v := .int .i64 ((((c.toNat : Nat) : Int) - 97) + 10)) rfl) ?_
        refine JL.nil ?_
        refine JQ.seq ?_
        refine JC.ret ?_
        refine JQ.thenRet ?_
        refine Done.one (.inl rfl) rfl (RV.tmp (v := .int .i64 ((((c.toNat : Nat) : Int) - 97) + 10)) rfl) (List.nil_sublist _) ?_
        refine ⟨_, ?_, ?_, rfl, rfl⟩
        · first | exact hexV_a (by omega) (by omega) | exact hexV_b (by omega) (by omega) | exact hexV_c (by omega) (by omega)
        · omega
      · skip
        refine JC.condF (congrArg Value.bool (decide_eq_false h_6)) ?_
        refine JC.skip ?_
        refine JQ.seq ?_
        refine JC.seq ?_
        refine JC.region ?_
        refine JL.pure rfl (PO.assign (v := .int .i64 (-1)) rfl) ?_
        refine JL.nil ?_
        refine JQ.seq ?_
        refine JC.ret ?_
        refine Done.one (.inl rfl) rfl (RV.tmp (v := .int .i64 (-1)) rfl) (List.nil_sublist _) ?_
        refine ⟨_, ?_, ?_, rfl, rfl⟩
        · first | exact hexV_a (by omega) (by omega) | exact hexV_b (by omega) (by omega) | exact hexV_c (by omega) (by omega)
        · omega
    · skip
      refine JL.guardOff (b := false) rfl rfl rfl (congrArg Value.bool (decide_eq_false h_5)) ?_
      refine JL.guardOff (b := false) rfl rfl rfl (congrArg Value.bool (decide_eq_false h_5)) ?_
      refine JL.pure rfl (PO.pickF (v := .bool false) (congrArg Value.bool (decide_eq_false h_5)) rfl) ?_
      refine JL.nil ?_
      refine JQ.seq ?_
      refine JC.condF (congrArg Value.bool rfl) ?_
      refine JC.skip ?_
      refine JQ.seq ?_
      refine JC.seq ?_
      refine JC.region ?_
      refine JL.pure rfl (PO.assign (v := .int .i64 (-1)) rfl) ?_
      refine JL.nil ?_
      refine JQ.seq ?_
      refine JC.ret ?_
      refine Done.one (.inl rfl) rfl (RV.tmp (v := .int .i64 (-1)) rfl) (List.nil_sublist _) ?_
      refine ⟨_, ?_, ?_, rfl, rfl⟩
      · first | exact hexV_a (by omega) (by omega) | exact hexV_b (by omega) (by omega) | exact hexV_c (by omega) (by omega)
      · omega

theorem N_sHex (s : Str) (hs : s.length ≤ 1000000000000) :
    Ct Tryz.prog 263 [str s] ([]) (fun _ => True) (fun v A' => ∃ r0 r1, hexP s = (r0, r1) ∧ r0.length ≤ 40000 ∧ v = .tuple #[str r0, .bool r1] ∧ A' = []) := by
  refine Ct.intro Tryz.func263 rfl Tryz.ntmps263 (Nat.le_of_ble_eq_true rfl) fun w0 hpre => ?_
  refine JC.seq ?_
  refine JC.region ?_
  refine JL.pure rfl (PO.assign (v := str []) rfl) ?_
  refine JL.pure rfl (PO.assign (v := .bool false) rfl) ?_
  refine JL.nil ?_
  refine JQ.seq ?_
  refine JC.seq ?_
  refine JC.seq ?_
  refine JC.region ?_
  refine JL.pure rfl (PO.move (v := str s) rfl) ?_
  refine JL.pure rfl (PO.lenS Tryz.underlying9 rfl) ?_
  refine JL.pure rfl (PO.gtr rfl rfl) ?_
  refine JL.nil ?_
  refine JQ.seq ?_
  by_cases h_1 : 20000 < (s.length : Int)
  · skip
    refine JC.condT (congrArg Value.bool (decide_eq_true h_1)) ?_
    refine JC.seq ?_
    refine JC.region ?_
    refine JL.pure rfl (PO.assign (v := str []) rfl) ?_
    refine JL.pure rfl (PO.assign (v := .bool false) rfl) ?_
    refine JL.nil ?_
    refine JQ.seq ?_
    refine JC.ret ?_
    refine JQ.thenRet ?_
    refine Done.two (.inl rfl) rfl (RV.tmp (v := str []) rfl) (RV.tmp (v := .bool false) rfl) (List.nil_sublist _) ?_
    exact ⟨[], false, (by first | exact hexP_yes (by assumption) | (rw [hexP_no (by assumption), ← hexAcc_nil, hE])), (by first | omega | (simp only [List.length_append, List.length_cons, List.length_nil, List.length_take, List.length_drop]; omega)), rfl, rfl⟩
  · skip
    refine JC.condF (congrArg Value.bool (decide_eq_false h_1)) ?_
    refine JC.skip ?_
    refine JQ.seq ?_
    refine JC.seq ?_
    refine JC.region ?_
    refine JL.op rfl (JO.buildSlice (ps := []) (cur := #[]) Tryz.underlying44 Tryz.sizeOf5 Tryz.zeroValue5 rfl (by kernel_rfl) (by decide) (by decide)) ?_
    rintro _ _ ⟨a_2, rfl, rfl⟩
    refine JL.pure rfl (PO.assign (v := .slice a_2 0 0) rfl) ?_
    refine JL.nil ?_
    refine JQ.seq ?_
    refine JC.seq ?_
    refine JC.seq ?_
    refine JC.region ?_
    refine JL.pure rfl (PO.assign (v := .int .i64 0) rfl) ?_
    refine JL.nil ?_
    refine JQ.seq ?_
    refine JC.block ?_
    refine JC.loop (fun k_ e_ L_ => ∃ j : Nat, ∃ out_a : Option Addr, ∃ out_c : Nat, ∃ out_ : Str, (j ≤ s.length) ∧ (out_.length ≤ 2 * j) ∧ (hexAcc (s.drop j) out_ = hexAcc s ([] : List UInt8)) ∧ e_ 0 = str s ∧ e_ 2 = str [] ∧ e_ 3 = .bool false ∧ e_ 4 = .slice out_a out_.length out_c ∧ e_ 5 = .int .i64 ((j : Nat) : Int) ∧ L_ = [Res.row (.slice out_a out_.length out_c) 5 1 out_.length (out_.map encB)] ∧ k_ = s.length - j) _ ⟨0, a_2, 0, ([] : List UInt8), by omega, (by first | omega | (simp only [List.length_append, List.length_cons, List.length_nil, List.length_take, List.length_drop]; omega)), rfl, rfl, rfl, rfl, rfl, rfl, rfl, rfl⟩ ?_
    rintro _ e_3 _ ⟨j, out_a, out_c, out_, hj, ho, hR, he_4, he_5, he_6, he_7, he_8, rfl, rfl⟩
    refine JC.seq ?_
    refine JC.seq ?_
    refine JC.region ?_
    refine JL.pure rfl (PO.move (v := .int .i64 ((j : Nat) : Int)) he_8) ?_
    refine JL.pure rfl (PO.move (v := str s) he_4) ?_
    refine JL.pure rfl (PO.lenS Tryz.underlying9 rfl) ?_
    refine JL.pure rfl (PO.lss rfl rfl) ?_
    refine JL.nil ?_
    refine JQ.seq ?_
    by_cases h_9 : ((j : Nat) : Int) < (s.length : Int)
    · skip
      have hlt : j < s.length := by omega
      have hu8 := UInt8.toNat_lt (s.getD j 0)
      refine JC.condT (congrArg Value.bool (decide_eq_true h_9)) ?_
      refine JC.skip ?_
      refine JQ.seq ?_
      refine JC.seq ?_
      refine JC.block ?_
      refine JC.regionA [] 15 mixed (by simp) ?_
      refine JA.takeP 0 rfl (by kernel_rfl) (NP.bl (NP.th (NP.th (NP.bl (NP.th NP.body))))) (by kernel_rfl) (by kernel_rfl) rfl (PO.move (v := .slice out_a out_.length out_c) he_7) ?_
      refine JA.takeP 1 rfl (by kernel_rfl) (NP.bl (NP.th (NP.th (NP.bl (NP.th NP.body))))) (by kernel_rfl) (by kernel_rfl) rfl (PO.move (v := str s) he_4) ?_
      refine JA.takeP 2 rfl (by kernel_rfl) (NP.bl (NP.th (NP.th (NP.bl (NP.th NP.body))))) (by kernel_rfl) (by kernel_rfl) rfl (PO.move (v := .int .i64 ((j : Nat) : Int)) he_8) ?_
      refine JA.takeP 3 rfl (by kernel_rfl) (NP.bl (NP.th (NP.th (NP.bl (NP.th NP.body))))) (by kernel_rfl) (by kernel_rfl) rfl (PO.indexS (i := j) (c := s.getD j 0) Tryz.underlying9 rfl rfl (getD_some (by omega))) ?_
      refine JA.takeP 4 rfl (by kernel_rfl) (NP.bl (NP.th (NP.th (NP.bl (NP.th NP.body))))) (by kernel_rfl) (by kernel_rfl) rfl (PO.convI (c := ((s.getD j 0).toNat : Int)) Tryz.underlying5 Tryz.underlying3 rfl (wr (by omega))) ?_
      refine JA.takeP 5 rfl (by kernel_rfl) (NP.bl (NP.th (NP.th (NP.bl (NP.th NP.body))))) (by kernel_rfl) (by kernel_rfl) rfl (PO.quoN (c := ((((s.getD j 0).toNat) / 16 : Nat) : Int)) rfl rfl (by omega) (by omega) (by omega) (wr (by omega))) ?_
      refine JA.takeP 7 rfl (by kernel_rfl) (NP.bl (NP.th (NP.th (NP.bl (NP.th NP.body))))) (by kernel_rfl) (by kernel_rfl) rfl (PO.move (v := str s) he_4) ?_
      refine JA.takeP 8 rfl (by kernel_rfl) (NP.bl (NP.th (NP.th (NP.bl (NP.th NP.body))))) (by kernel_rfl) (by kernel_rfl) rfl (PO.move (v := .int .i64 ((j : Nat) : Int)) he_8) ?_
      refine JA.takeP 9 rfl (by kernel_rfl) (NP.bl (NP.th (NP.th (NP.bl (NP.th NP.body))))) (by kernel_rfl) (by kernel_rfl) rfl (PO.indexS (i := j) (c := s.getD j 0) Tryz.underlying9 rfl rfl (getD_some (by omega))) ?_
      refine JA.takeP 10 rfl (by kernel_rfl) (NP.bl (NP.th (NP.th (NP.bl (NP.th NP.body))))) (by kernel_rfl) (by kernel_rfl) rfl (PO.convI (c := ((s.getD j 0).toNat : Int)) Tryz.underlying5 Tryz.underlying3 rfl (wr (by omega))) ?_
      refine JA.takeP 11 rfl (by kernel_rfl) (NP.bl (NP.th (NP.th (NP.bl (NP.th NP.body))))) (by kernel_rfl) (by kernel_rfl) rfl (PO.remN (c := ((((s.getD j 0).toNat) % 16 : Nat) : Int)) rfl rfl (by omega) (by omega) (by omega)) ?_
      refine JA.one (i := 6) (by kernel_rfl) ?_
      refine JX.op rfl rfl (JO.call [] Tryz.call285 rfl (N_figure (((s.getD j 0).toNat) / 16) (by omega)) rfl (fun _ _ => trivial)) ?_
      rintro _ _ ⟨_, ⟨rfl, rfl⟩, rfl⟩
      refine ⟨(fun _ h => by cases h), ?_⟩
      refine JA.one (i := 12) (by kernel_rfl) ?_
      refine JX.op rfl rfl (JO.call [] Tryz.call285 rfl (N_figure (((s.getD j 0).toNat) % 16) (by omega)) rfl (fun _ _ => trivial)) ?_
      rintro _ _ ⟨_, ⟨rfl, rfl⟩, rfl⟩
      refine ⟨(fun _ h => by cases h), ?_⟩
      refine JA.one (i := 13) (by kernel_rfl) ?_
      refine JX.op rfl rfl (JO.buildSlice (ps := [(0, .int .u8 (((hexFig (((s.getD j 0).toNat) / 16)).toNat : Nat) : Int)), (1, .int .u8 (((hexFig (((s.getD j 0).toNat) % 16)).toNat : Nat) : Int))]) (cur := #[.int .u8 (((hexFig (((s.getD j 0).toNat) / 16)).toNat : Nat) : Int), .int .u8 (((hexFig (((s.getD j 0).toNat) % 16)).toNat : Nat) : Int)]) Tryz.underlying44 Tryz.sizeOf5 Tryz.zeroValue5 rfl (by kernel_rfl) (by decide) (by decide)) ?_
      rintro _ _ ⟨a_11, rfl, rfl⟩
      refine ⟨(fun _ h => by cases h), ?_⟩
      refine JA.one (i := 14) (by kernel_rfl) ?_
      refine JX.op rfl rfl (JO.append' 1 (q := 2) (news := ([hexFig (((s.getD j 0).toNat) / 16), hexFig (((s.getD j 0).toNat) % 16)] : List UInt8).map encB) (n' := (out_ ++ ([hexFig (((s.getD j 0).toNat) / 16), hexFig (((s.getD j 0).toNat) % 16)] : List UInt8)).length) (cs' := (out_ ++ ([hexFig (((s.getD j 0).toNat) / 16), hexFig (((s.getD j 0).toNat) % 16)] : List UInt8)).map encB) rfl Tryz.underlying44 Tryz.underlying44 Tryz.typeInfo5 rfl (by' := 1) rfl rfl rfl rfl rfl (fun w hw => Src.sees (hw.see (i := 0) rfl) (oneB _)) (by (try simp only [List.length_append, List.length_cons, List.length_nil, List.length_take, List.length_drop]); omega) (by (try simp only [List.length_append, List.length_cons, List.length_nil, List.length_take, List.length_drop]); omega) (by simp only [List.length_append, List.length_take, List.length_drop, List.length_cons, List.length_nil] <;> first | rfl | omega) (by simp only [List.map_append])) ?_
      rintro _ _ ⟨a_14, c_15, rfl, rfl⟩
      refine ⟨(fun _ h => by cases h), ?_⟩
      refine JA.takeP 15 rfl (by kernel_rfl) (NP.bl (NP.th (NP.th (NP.bl (NP.th NP.body))))) (by kernel_rfl) (by kernel_rfl) rfl (PO.assign (v := .slice a_14 ((out_ ++ ([hexFig (((s.getD j 0).toNat) / 16), hexFig (((s.getD j 0).toNat) % 16)] : List UInt8)).length) c_15) rfl) ?_
      refine JA.done (by kernel_rfl) ?_
      refine JQ.blockN ?_
      refine JQ.seq ?_
      refine JC.region ?_
      refine JL.pure rfl (PO.move (v := .int .i64 ((j : Nat) : Int)) he_8) ?_
      refine JL.pure rfl (PO.add (c := ((j + 1 : Nat) : Int)) rfl rfl (wr (by omega))) ?_
      refine JL.pure rfl (PO.assign (v := .int .i64 ((j + 1 : Nat) : Int)) rfl) ?_
      refine JL.nil ?_
      refine JQ.pick [1] (A := [Res.row (.slice a_14 ((out_ ++ ([hexFig (((s.getD j 0).toNat) / 16), hexFig (((s.getD j 0).toNat) % 16)] : List UInt8)).length) c_15) 5 1 ((out_ ++ ([hexFig (((s.getD j 0).toNat) / 16), hexFig (((s.getD j 0).toNat) % 16)] : List UInt8)).length) ((out_ ++ ([hexFig (((s.getD j 0).toNat) / 16), hexFig (((s.getD j 0).toNat) % 16)] : List UInt8)).map encB)]) rfl ?_
      refine JQ.again (s.length - (j + 1)) (by omega) ⟨j + 1, a_14, c_15, (out_ ++ ([hexFig (((s.getD j 0).toNat) / 16), hexFig (((s.getD j 0).toNat) % 16)] : List UInt8)), by omega, (by first | omega | (simp only [List.length_append, List.length_cons, List.length_nil, List.length_take, List.length_drop]; omega)), (by rw [drop_at (getD_some (d := 0) hlt)] at hR; simp only [hexAcc, h_1, h_9, if_true, if_false, Bool.false_eq_true, Bool.not_true, Bool.not_false] at hR; (repeat (first | rw [if_pos (by omega)] at hR | rw [if_neg (by omega)] at hR)); exact hR), he_4, he_5, he_6, rfl, rfl, rfl, rfl⟩
    · skip
      rw [List.drop_of_length_le (by omega)] at hR
      simp only [hexAcc] at hR
      have hE := hR.symm
      refine JC.condF (congrArg Value.bool (decide_eq_false h_9)) ?_
      refine JC.exit ?_
      refine JQ.thenExit ?_
      refine JQ.thenExit ?_
      refine JQ.blockE ?_
      refine JQ.seq ?_
      refine JC.seq ?_
      refine JC.region ?_
      refine JL.pure rfl (PO.move (v := .slice out_a out_.length out_c) he_7) ?_
      refine JL.ld rfl (LO.toStr 0 out_ rfl Tryz.underlying44 Tryz.underlying5 Tryz.underlying9 rfl rfl) ?_
      refine JL.pure rfl (PO.assign (v := str out_) rfl) ?_
      refine JL.pure rfl (PO.assign (v := .bool true) rfl) ?_
      refine JL.nil ?_
      refine JQ.seq ?_
      refine JC.ret ?_
      refine Done.two (.inl rfl) rfl (RV.tmp (v := str out_) rfl) (RV.tmp (v := .bool true) rfl) (List.nil_sublist _) ?_
      exact ⟨out_, true, (by first | exact hexP_yes (by assumption) | (rw [hexP_no (by assumption), ← hexAcc_nil, hE])), (by first | omega | (simp only [List.length_append, List.length_cons, List.length_nil, List.length_take, List.length_drop]; omega)), rfl, rfl⟩

theorem N_hex (s : Str) (hs : s.length ≤ 1000000000000) :
    Ct Tryz.prog 283 [str s] ([]) (fun _ => True) (fun v A' => ∃ r0 r1, hexP s = (r0, r1) ∧ r0.length ≤ 40000 ∧ v = .tuple #[str r0, .bool r1] ∧ A' = []) := by
  refine Ct.intro Tryz.func283 rfl Tryz.ntmps283 (Nat.le_of_ble_eq_true rfl) fun w0 hpre => ?_
  refine JC.seq ?_
  refine JC.region ?_
  refine JL.pure rfl (PO.assign (v := str []) rfl) ?_
  refine JL.pure rfl (PO.assign (v := .bool false) rfl) ?_
  refine JL.nil ?_
  refine JQ.seq ?_
  refine JC.seq ?_
  refine JC.seq ?_
  refine JC.region ?_
  refine JL.pure rfl (PO.move (v := str s) rfl) ?_
  refine JL.pure rfl (PO.lenS Tryz.underlying9 rfl) ?_
  refine JL.pure rfl (PO.gtr rfl rfl) ?_
  refine JL.nil ?_
  refine JQ.seq ?_
  by_cases h_1 : 20000 < (s.length : Int)
  · skip
    refine JC.condT (congrArg Value.bool (decide_eq_true h_1)) ?_
    refine JC.seq ?_
    refine JC.region ?_
    refine JL.pure rfl (PO.assign (v := str []) rfl) ?_
    refine JL.pure rfl (PO.assign (v := .bool false) rfl) ?_
    refine JL.nil ?_
    refine JQ.seq ?_
    refine JC.ret ?_
    refine JQ.thenRet ?_
    refine Done.two (.inl rfl) rfl (RV.tmp (v := str []) rfl) (RV.tmp (v := .bool false) rfl) (List.nil_sublist _) ?_
    exact ⟨[], false, (by first | exact hexP_yes (by assumption) | exact hexP_no (by assumption)), (by first | (rw [hexB_len]; omega) | (simp only [List.length_nil]; omega)), rfl, rfl⟩
  · skip
    refine JC.condF (congrArg Value.bool (decide_eq_false h_1)) ?_
    refine JC.skip ?_
    refine JQ.seq ?_
    refine JC.seq ?_
    refine JC.region ?_
    refine JL.pure rfl (PO.move (v := str s) rfl) ?_
    refine JL.op rfl (JO.toBytes Tryz.underlying9 Tryz.underlying44 Tryz.underlying5 rfl (by unfold maxLen; omega)) ?_
    rintro _ _ ⟨a_2, c_3, rfl, rfl⟩
    refine JL.op rfl (JO.call [] Tryz.call289 rfl (N_hexEnc a_2 c_3 s (by omega)) rfl (fun w hw => hw.see (i := 0) rfl)) ?_
    rintro _ _ ⟨_, ⟨rfl, rfl⟩, rfl⟩
    refine JL.pure rfl (PO.assign (v := str (hexB s)) rfl) ?_
    refine JL.pure rfl (PO.assign (v := .bool true) rfl) ?_
    refine JL.nil ?_
    refine JQ.seq ?_
    refine JC.ret ?_
    refine Done.two (.inl rfl) rfl (RV.tmp (v := str (hexB s)) rfl) (RV.tmp (v := .bool true) rfl) (List.nil_sublist _) ?_
    exact ⟨(hexB s), true, (by first | exact hexP_yes (by assumption) | exact hexP_no (by assumption)), (by first | (rw [hexB_len]; omega) | (simp only [List.length_nil]; omega)), rfl, rfl⟩

theorem N_hexOf (s : Str) (hs : s.length ≤ 1000000000000) :
    Ct Tryz.prog 250 [str s] ([]) (fun _ => True) (fun v A' => ∃ r0, hexS s = r0 ∧ r0.length ≤ 40000 ∧ v = str r0 ∧ A' = []) := by
  refine Ct.intro Tryz.func250 rfl Tryz.ntmps250 (Nat.le_of_ble_eq_true rfl) fun w0 hpre => ?_
  refine JC.seq ?_
  refine JC.region ?_
  refine JL.pure rfl (PO.assign (v := str []) rfl) ?_
  refine JL.nil ?_
  refine JQ.seq ?_
  refine JC.seq ?_
  refine JC.region ?_
  refine JL.pure rfl (PO.move (v := str s) rfl) ?_
  refine JL.op rfl (JO.call [] Tryz.call283 rfl (N_hex s (by omega)) rfl (fun _ _ => trivial)) ?_
  rintro _ _ ⟨_, ⟨u_3, b_5, e_1, f_4, rfl, rfl⟩, rfl⟩
  refine JL.pure rfl (PO.move (v := .tuple #[str u_3, .bool b_5]) rfl) ?_
  refine JL.pure rfl (PO.extract (v := str u_3) rfl rfl) ?_
  refine JL.pure rfl (PO.extract (v := .bool b_5) rfl rfl) ?_
  refine JL.pure rfl (PO.assign (v := str u_3) rfl) ?_
  refine JL.pure rfl (PO.assign (v := .bool b_5) rfl) ?_
  refine JL.nil ?_
  refine JQ.seq ?_
  refine JC.seq ?_
  refine JC.region ?_
  refine JL.pure rfl (PO.move (v := str u_3) rfl) ?_
  refine JL.pure rfl (PO.assign (v := str u_3) rfl) ?_
  refine JL.nil ?_
  refine JQ.seq ?_
  refine JC.ret ?_
  refine Done.one (.inl rfl) rfl (RV.tmp (v := str u_3) rfl) (List.nil_sublist _) ?_
  exact ⟨u_3, (by simp only [hexS_P, e_1, if_true, if_false, Bool.false_eq_true, Bool.not_true, Bool.not_false]; (repeat (first | rw [if_pos (by omega)] | rw [if_neg (by omega)])); all_goals (first | rfl | simp only [if_true, if_false, Bool.false_eq_true, Bool.not_true, Bool.not_false, e_1])), (by first | omega | (simp only [List.length_append, List.length_cons, List.length_nil, List.length_take, List.length_drop]; omega)), rfl, rfl⟩

theorem N_unhex (t : Str) (ht : t.length ≤ 1000000000000) :
    Ct Tryz.prog 272 [str t] ([]) (fun w => HexOk w) (fun v A' => ∃ r0 r1, unhex t = (r0, r1) ∧ r0.length ≤ 20000 ∧ v = .tuple #[str r0, .bool r1] ∧ A' = []) := by
  refine Ct.introL Tryz.func272 rfl Tryz.ntmps272 (Nat.le_of_ble_eq_true rfl) fun w0 hpre hlow => ?_
  refine JC.seq ?_
  refine JC.region ?_
  refine JL.pure rfl (PO.assign (v := str []) rfl) ?_
  refine JL.pure rfl (PO.assign (v := .bool false) rfl) ?_
  refine JL.nil ?_
  refine JQ.seq ?_
  refine JC.seq ?_
  refine JC.region ?_
  refine JL.pure rfl (PO.move (v := str t) rfl) ?_
  refine JL.op rfl (JO.call [] Tryz.call288 rfl (N_hexDec t (by omega)) rfl (fun w hw => hw.hex hlow hpre)) ?_
  rintro _ _ ⟨_, ⟨da, dc, dr, ⟨hd, rfl⟩ | ⟨hd, te, pe, rfl⟩, rfl⟩, rfl⟩
  · skip
    refine JL.pure rfl (PO.move (v := .tuple #[.slice da dr.length dc, .nilIface]) rfl) ?_
    refine JL.pure rfl (PO.extract (v := .slice da dr.length dc) rfl rfl) ?_
    refine JL.pure rfl (PO.extract (v := .nilIface) rfl rfl) ?_
    refine JL.pure rfl (PO.assign (v := .slice da dr.length dc) rfl) ?_
    refine JL.pure rfl (PO.assign (v := .nilIface) rfl) ?_
    refine JL.nil ?_
    refine JQ.seq ?_
    refine JC.seq ?_
    refine JC.seq ?_
    refine JC.region ?_
    refine JL.pure rfl (PO.move (v := .nilIface) rfl) ?_
    refine JL.pure rfl (PO.neqIfN Tryz.underlying176 rfl rfl) ?_
    refine JL.pure rfl (PO.move (v := .bool false) rfl) ?_
    refine JL.guardOn rfl rfl rfl (congrArg Value.bool rfl) (JO.ofLO (LO.pure (PO.move (v := .slice da dr.length dc) rfl))) ?_
    rintro _ _ ⟨rfl, rfl⟩
    refine JL.guardOn rfl rfl rfl (congrArg Value.bool rfl) (JO.ofLO (LO.pure (PO.lenV Tryz.underlying44 rfl))) ?_
    rintro _ _ ⟨rfl, rfl⟩
    refine JL.guardOn rfl rfl rfl (congrArg Value.bool rfl) (JO.ofLO (LO.pure (PO.gtr rfl rfl))) ?_
    rintro _ _ ⟨rfl, rfl⟩
    refine JL.pure rfl (PO.pickF (v := .bool (decide (20000 < ((dr.length : Nat) : Int)))) (congrArg Value.bool rfl) rfl) ?_
    refine JL.pure rfl (PO.move (v := .bool (decide (20000 < ((dr.length : Nat) : Int)))) rfl) ?_
    by_cases h_1 : 20000 < ((dr.length : Nat) : Int)
    · skip
      refine JL.guardOff (b := true) rfl rfl rfl (congrArg Value.bool (decide_eq_true h_1)) ?_
      refine JL.guardOff (b := true) rfl rfl rfl (congrArg Value.bool (decide_eq_true h_1)) ?_
      refine JL.guardOff (b := true) rfl rfl rfl (congrArg Value.bool (decide_eq_true h_1)) ?_
      refine JL.guardOff (b := true) rfl rfl rfl (congrArg Value.bool (decide_eq_true h_1)) ?_
      refine JL.pure rfl (PO.pickT (v := .bool true) (congrArg Value.bool (decide_eq_true h_1)) rfl) ?_
      refine JL.nil ?_
      refine JQ.seq ?_
      refine JC.condT (congrArg Value.bool rfl) ?_
      refine JC.seq ?_
      refine JC.region ?_
      refine JL.pure rfl (PO.assign (v := str []) rfl) ?_
      refine JL.pure rfl (PO.assign (v := .bool false) rfl) ?_
      refine JL.nil ?_
      refine JQ.seq ?_
      refine JC.ret ?_
      refine JQ.thenRet ?_
      refine Done.two (.inl rfl) rfl (RV.tmp (v := str []) rfl) (RV.tmp (v := .bool false) rfl) (List.nil_sublist _) ?_
      exact ⟨[], false, (by first | exact unhex_err hd | exact unhex_long hd (by assumption) | exact unhex_ne hd (by assumption) | exact unhex_yes hd (by assumption) (by assumption)), (by first | omega | (simp only [List.length_append, List.length_cons, List.length_nil, List.length_take, List.length_drop]; omega)), rfl, rfl⟩
    · skip
      refine JL.guardOn rfl rfl rfl (congrArg Value.bool (decide_eq_false h_1)) (JO.ofLO (LO.pure (PO.move (v := .slice da dr.length dc) rfl))) ?_
      rintro _ _ ⟨rfl, rfl⟩
      refine JL.guardOn rfl rfl rfl (congrArg Value.bool (decide_eq_false h_1)) (JO.call [] Tryz.call289 rfl (N_hexEnc da dc dr (by omega)) rfl (fun w hw => hw.see (i := 0) rfl)) ?_
      rintro _ _ ⟨_, ⟨rfl, rfl⟩, rfl⟩
      refine JL.guardOn rfl rfl rfl (congrArg Value.bool (decide_eq_false h_1)) (JO.ofLO (LO.pure (PO.move (v := str t) rfl))) ?_
      rintro _ _ ⟨rfl, rfl⟩
      refine JL.guardOn rfl rfl rfl (congrArg Value.bool (decide_eq_false h_1)) (JO.ofLO (LO.pure (PO.neqS rfl rfl))) ?_
      rintro _ _ ⟨rfl, rfl⟩
      refine JL.pure rfl (PO.pickF (v := .bool (!(decide ((hexB dr) = t)))) (congrArg Value.bool (decide_eq_false h_1)) rfl) ?_
      refine JL.nil ?_
      refine JQ.seq ?_
      by_cases h_2 : (hexB dr) = t
      · skip
        refine JC.condF (congrArg Value.bool (congrArg Bool.not (decide_eq_true h_2))) ?_
        refine JC.skip ?_
        refine JQ.seq ?_
        refine JC.seq ?_
        refine JC.region ?_
        refine JL.pure rfl (PO.move (v := .slice da dr.length dc) rfl) ?_
        refine JL.ld rfl (LO.toStr 0 dr rfl Tryz.underlying44 Tryz.underlying5 Tryz.underlying9 rfl rfl) ?_
        refine JL.pure rfl (PO.assign (v := str dr) rfl) ?_
        refine JL.pure rfl (PO.assign (v := .bool true) rfl) ?_
        refine JL.nil ?_
        refine JQ.seq ?_
        refine JC.ret ?_
        refine Done.two (.inl rfl) rfl (RV.tmp (v := str dr) rfl) (RV.tmp (v := .bool true) rfl) (List.nil_sublist _) ?_
        exact ⟨dr, true, (by first | exact unhex_err hd | exact unhex_long hd (by assumption) | exact unhex_ne hd (by assumption) | exact unhex_yes hd (by assumption) (by assumption)), (by first | omega | (simp only [List.length_append, List.length_cons, List.length_nil, List.length_take, List.length_drop]; omega)), rfl, rfl⟩
      · skip
        refine JC.condT (congrArg Value.bool (congrArg Bool.not (decide_eq_false h_2))) ?_
        refine JC.seq ?_
        refine JC.region ?_
        refine JL.pure rfl (PO.assign (v := str []) rfl) ?_
        refine JL.pure rfl (PO.assign (v := .bool false) rfl) ?_
        refine JL.nil ?_
        refine JQ.seq ?_
        refine JC.ret ?_
        refine JQ.thenRet ?_
        refine Done.two (.inl rfl) rfl (RV.tmp (v := str []) rfl) (RV.tmp (v := .bool false) rfl) (List.nil_sublist _) ?_
        exact ⟨[], false, (by first | exact unhex_err hd | exact unhex_long hd (by assumption) | exact unhex_ne hd (by assumption) | exact unhex_yes hd (by assumption) (by assumption)), (by first | omega | (simp only [List.length_append, List.length_cons, List.length_nil, List.length_take, List.length_drop]; omega)), rfl, rfl⟩
  · skip
    refine JL.pure rfl (PO.move (v := .tuple #[.slice da dr.length dc, (.iface te pe)]) rfl) ?_
    refine JL.pure rfl (PO.extract (v := .slice da dr.length dc) rfl rfl) ?_
    refine JL.pure rfl (PO.extract (v := (.iface te pe)) rfl rfl) ?_
    refine JL.pure rfl (PO.assign (v := .slice da dr.length dc) rfl) ?_
    refine JL.pure rfl (PO.assign (v := (.iface te pe)) rfl) ?_
    refine JL.nil ?_
    refine JQ.seq ?_
    refine JC.seq ?_
    refine JC.seq ?_
    refine JC.region ?_
    refine JL.pure rfl (PO.move (v := (.iface te pe)) rfl) ?_
    refine JL.pure rfl (PO.neqIfS Tryz.underlying176 rfl rfl) ?_
    refine JL.pure rfl (PO.move (v := .bool true) rfl) ?_
    refine JL.guardOff (b := true) rfl rfl rfl (congrArg Value.bool rfl) ?_
    refine JL.guardOff (b := true) rfl rfl rfl (congrArg Value.bool rfl) ?_
    refine JL.guardOff (b := true) rfl rfl rfl (congrArg Value.bool rfl) ?_
    refine JL.pure rfl (PO.pickT (v := .bool true) (congrArg Value.bool rfl) rfl) ?_
    refine JL.pure rfl (PO.move (v := .bool true) rfl) ?_
    refine JL.guardOff (b := true) rfl rfl rfl (congrArg Value.bool rfl) ?_
    refine JL.guardOff (b := true) rfl rfl rfl (congrArg Value.bool rfl) ?_
    refine JL.guardOff (b := true) rfl rfl rfl (congrArg Value.bool rfl) ?_
    refine JL.guardOff (b := true) rfl rfl rfl (congrArg Value.bool rfl) ?_
    refine JL.pure rfl (PO.pickT (v := .bool true) (congrArg Value.bool rfl) rfl) ?_
    refine JL.nil ?_
    refine JQ.seq ?_
    refine JC.condT (congrArg Value.bool rfl) ?_
    refine JC.seq ?_
    refine JC.region ?_
    refine JL.pure rfl (PO.assign (v := str []) rfl) ?_
    refine JL.pure rfl (PO.assign (v := .bool false) rfl) ?_
    refine JL.nil ?_
    refine JQ.seq ?_
    refine JC.ret ?_
    refine JQ.thenRet ?_
    refine Done.two (.inl rfl) rfl (RV.tmp (v := str []) rfl) (RV.tmp (v := .bool false) rfl) (List.nil_sublist _) ?_
    exact ⟨[], false, (by first | exact unhex_err hd | exact unhex_long hd (by assumption) | exact unhex_ne hd (by assumption) | exact unhex_yes hd (by assumption) (by assumption)), (by first | omega | (simp only [List.length_append, List.length_cons, List.length_nil, List.length_take, List.length_drop]; omega)), rfl, rfl⟩

theorem N_sUnhex (t : Str) (ht : t.length ≤ 1000000000000) :
    Ct Tryz.prog 220 [str t] ([]) (fun _ => True) (fun v A' => ∃ r0 r1, unhex t = (r0, r1) ∧ r0.length ≤ 20000 ∧ v = .tuple #[str r0, .bool r1] ∧ A' = []) := by
  refine Ct.intro Tryz.func220 rfl Tryz.ntmps220 (Nat.le_of_ble_eq_true rfl) fun w0 hpre => ?_
  refine JC.seq ?_
  refine JC.region ?_
  refine JL.pure rfl (PO.assign (v := str []) rfl) ?_
  refine JL.pure rfl (PO.assign (v := .bool false) rfl) ?_
  refine JL.nil ?_
  refine JQ.seq ?_
  refine JC.seq ?_
  refine JC.seq ?_
  refine JC.region ?_
  refine JL.pure rfl (PO.move (v := str t) rfl) ?_
  refine JL.pure rfl (PO.lenS Tryz.underlying9 rfl) ?_
  refine JL.pure rfl (PO.gtr rfl rfl) ?_
  refine JL.pure rfl (PO.move (v := .bool (decide (40000 < (t.length : Int)))) rfl) ?_
  by_cases h_1 : 40000 < (t.length : Int)
  · skip
    refine JL.guardOff (b := true) rfl rfl rfl (congrArg Value.bool (decide_eq_true h_1)) ?_
    refine JL.guardOff (b := true) rfl rfl rfl (congrArg Value.bool (decide_eq_true h_1)) ?_
    refine JL.guardOff (b := true) rfl rfl rfl (congrArg Value.bool (decide_eq_true h_1)) ?_
    refine JL.guardOff (b := true) rfl rfl rfl (congrArg Value.bool (decide_eq_true h_1)) ?_
    refine JL.pure rfl (PO.pickT (v := .bool true) (congrArg Value.bool (decide_eq_true h_1)) rfl) ?_
    refine JL.nil ?_
    refine JQ.seq ?_
    refine JC.condT (congrArg Value.bool rfl) ?_
    refine JC.seq ?_
    refine JC.region ?_
    refine JL.pure rfl (PO.assign (v := str []) rfl) ?_
    refine JL.pure rfl (PO.assign (v := .bool false) rfl) ?_
    refine JL.nil ?_
    refine JQ.seq ?_
    refine JC.ret ?_
    refine JQ.thenRet ?_
    refine Done.two (.inl rfl) rfl (RV.tmp (v := str []) rfl) (RV.tmp (v := .bool false) rfl) (List.nil_sublist _) ?_
    exact ⟨[], false, (by first | exact unhex_bad (by omega) | exact unhex_some (by rw [List.drop_of_length_le (by omega)] at hR; rw [← hR]; simp [unhexL]) (by assumption) | exact unhex_none (by rw [unhexL_step (by omega)] at hR; simp only [if_true] at hR; rw [if_pos (by omega)] at hR; exact hR.symm)), (by first | omega | (simp only [List.length_append, List.length_cons, List.length_nil, List.length_take, List.length_drop]; omega)), rfl, rfl⟩
  · skip
    refine JL.guardOn rfl rfl rfl (congrArg Value.bool (decide_eq_false h_1)) (JO.ofLO (LO.pure (PO.move (v := str t) rfl))) ?_
    rintro _ _ ⟨rfl, rfl⟩
    refine JL.guardOn rfl rfl rfl (congrArg Value.bool (decide_eq_false h_1)) (JO.ofLO (LO.pure (PO.lenS Tryz.underlying9 rfl))) ?_
    rintro _ _ ⟨rfl, rfl⟩
    refine JL.guardOn rfl rfl rfl (congrArg Value.bool (decide_eq_false h_1)) (JO.ofLO (LO.pure (PO.remN (c := ((t.length % 2 : Nat) : Int)) rfl rfl (by omega) (by omega) (by omega)))) ?_
    rintro _ _ ⟨rfl, rfl⟩
    refine JL.guardOn rfl rfl rfl (congrArg Value.bool (decide_eq_false h_1)) (JO.ofLO (LO.pure (PO.neqI rfl rfl))) ?_
    rintro _ _ ⟨rfl, rfl⟩
    refine JL.pure rfl (PO.pickF (v := .bool (!(decide (((t.length % 2 : Nat) : Int) = 0)))) (congrArg Value.bool (decide_eq_false h_1)) rfl) ?_
    refine JL.nil ?_
    refine JQ.seq ?_
    by_cases h_2 : ((t.length % 2 : Nat) : Int) = 0
    · skip
      refine JC.condF (congrArg Value.bool (congrArg Bool.not (decide_eq_true h_2))) ?_
      refine JC.skip ?_
      refine JQ.seq ?_
      refine JC.seq ?_
      refine JC.region ?_
      refine JL.op rfl (JO.buildSlice (ps := []) (cur := #[]) Tryz.underlying44 Tryz.sizeOf5 Tryz.zeroValue5 rfl (by kernel_rfl) (by decide) (by decide)) ?_
      rintro _ _ ⟨a_3, rfl, rfl⟩
      refine JL.pure rfl (PO.assign (v := .slice a_3 0 0) rfl) ?_
      refine JL.nil ?_
      refine JQ.seq ?_
      refine JC.seq ?_
      refine JC.seq ?_
      refine JC.region ?_
      refine JL.pure rfl (PO.assign (v := .int .i64 0) rfl) ?_
      refine JL.nil ?_
      refine JQ.seq ?_
      refine JC.block ?_
      refine JC.loop (fun k_ e_ L_ => ∃ j : Nat, ∃ oa : Option Addr, ∃ oc : Nat, ∃ o_ : Str, (j ≤ t.length) ∧ ((t.length - j) % 2 = 0) ∧ (o_.length * 2 ≤ j) ∧ ((unhexL (t.drop j)).map (o_ ++ ·) = unhexL t) ∧ e_ 0 = str t ∧ e_ 4 = .slice oa o_.length oc ∧ e_ 5 = .int .i64 ((j : Nat) : Int) ∧ L_ = [Res.row (.slice oa o_.length oc) 5 1 o_.length (o_.map encB)] ∧ k_ = t.length - j) _ ⟨0, a_3, 0, [], by omega, by omega, (by simp), (by simp), rfl, rfl, rfl, rfl, rfl⟩ ?_
      rintro _ e_4 _ ⟨j, oa, oc, o_, hj, hj2, ho, hR, he_5, he_6, he_7, rfl, rfl⟩
      refine JC.seq ?_
      refine JC.seq ?_
      refine JC.region ?_
      refine JL.pure rfl (PO.move (v := .int .i64 ((j : Nat) : Int)) he_7) ?_
      refine JL.pure rfl (PO.move (v := str t) he_5) ?_
      refine JL.pure rfl (PO.lenS Tryz.underlying9 rfl) ?_
      refine JL.pure rfl (PO.lss rfl rfl) ?_
      refine JL.nil ?_
      refine JQ.seq ?_
      by_cases h_8 : ((j : Nat) : Int) < (t.length : Int)
      · skip
        refine JC.condT (congrArg Value.bool (decide_eq_true h_8)) ?_
        refine JC.skip ?_
        refine JQ.seq ?_
        refine JC.seq ?_
        refine JC.block ?_
        refine JC.seq ?_
        refine JC.region ?_
        refine JL.pure rfl (PO.move (v := str t) he_5) ?_
        refine JL.pure rfl (PO.move (v := .int .i64 ((j : Nat) : Int)) he_7) ?_
        refine JL.pure rfl (PO.indexS (i := j) (c := t.getD j 0) Tryz.underlying9 rfl rfl (getD_some (by omega))) ?_
        have hu_9 := UInt8.toNat_lt (t.getD j 0)
        refine JL.op rfl (JO.call [] Tryz.call277 rfl (N_value (t.getD j 0)) rfl (fun _ _ => trivial)) ?_
        rintro _ _ ⟨_, ⟨n_10, e_11, f_12, rfl, rfl⟩, rfl⟩
        refine JL.pure rfl (PO.assign (v := .int .i64 n_10) rfl) ?_
        refine JL.nil ?_
        refine JQ.seq ?_
        refine JC.seq ?_
        refine JC.region ?_
        refine JL.pure rfl (PO.move (v := str t) he_5) ?_
        refine JL.pure rfl (PO.move (v := .int .i64 ((j : Nat) : Int)) he_7) ?_
        refine JL.pure rfl (PO.add (c := ((j + 1 : Nat) : Int)) rfl rfl (wr (by omega))) ?_
        refine JL.pure rfl (PO.indexS (i := j + 1) (c := t.getD (j + 1) 0) Tryz.underlying9 rfl rfl (getD_some (by omega))) ?_
        have hu_13 := UInt8.toNat_lt (t.getD (j + 1) 0)
        refine JL.op rfl (JO.call [] Tryz.call277 rfl (N_value (t.getD (j + 1) 0)) rfl (fun _ _ => trivial)) ?_
        rintro _ _ ⟨_, ⟨n_14, e_15, f_16, rfl, rfl⟩, rfl⟩
        refine JL.pure rfl (PO.assign (v := .int .i64 n_14) rfl) ?_
        refine JL.nil ?_
        refine JQ.seq ?_
        refine JC.seq ?_
        refine JC.seq ?_
        refine JC.region ?_
        refine JL.pure rfl (PO.move (v := .int .i64 n_10) rfl) ?_
        refine JL.pure rfl (PO.lss rfl rfl) ?_
        refine JL.pure rfl (PO.move (v := .bool (decide (n_10 < 0))) rfl) ?_
        by_cases h_17 : n_10 < 0
        · skip
          refine JL.guardOff (b := true) rfl rfl rfl (congrArg Value.bool (decide_eq_true h_17)) ?_
          refine JL.guardOff (b := true) rfl rfl rfl (congrArg Value.bool (decide_eq_true h_17)) ?_
          refine JL.pure rfl (PO.pickT (v := .bool true) (congrArg Value.bool (decide_eq_true h_17)) rfl) ?_
          refine JL.nil ?_
          refine JQ.seq ?_
          refine JC.condT (congrArg Value.bool rfl) ?_
          refine JC.seq ?_
          refine JC.region ?_
          refine JL.pure rfl (PO.assign (v := str []) rfl) ?_
          refine JL.pure rfl (PO.assign (v := .bool false) rfl) ?_
          refine JL.nil ?_
          refine JQ.seq ?_
          refine JC.ret ?_
          refine JQ.thenRet ?_
          refine JQ.blockRet ?_
          refine JQ.thenRet ?_
          refine JQ.thenRet ?_
          refine JQ.blockRet ?_
          refine JQ.thenRet ?_
          refine Done.two (.inl rfl) rfl (RV.tmp (v := str []) rfl) (RV.tmp (v := .bool false) rfl) (List.nil_sublist _) ?_
          exact ⟨[], false, (by first | exact unhex_bad (by omega) | exact unhex_some (by rw [List.drop_of_length_le (by omega)] at hR; rw [← hR]; simp [unhexL]) (by assumption) | exact unhex_none (by rw [unhexL_step (by omega)] at hR; simp only [e_11, e_15] at hR; rw [if_pos (by omega)] at hR; exact hR.symm)), (by first | omega | (simp only [List.length_append, List.length_cons, List.length_nil, List.length_take, List.length_drop]; omega)), rfl, rfl⟩
        · skip
          refine JL.guardOn rfl rfl rfl (congrArg Value.bool (decide_eq_false h_17)) (JO.ofLO (LO.pure (PO.move (v := .int .i64 n_14) rfl))) ?_
          rintro _ _ ⟨rfl, rfl⟩
          refine JL.guardOn rfl rfl rfl (congrArg Value.bool (decide_eq_false h_17)) (JO.ofLO (LO.pure (PO.lss rfl rfl))) ?_
          rintro _ _ ⟨rfl, rfl⟩
          refine JL.pure rfl (PO.pickF (v := .bool (decide (n_14 < 0))) (congrArg Value.bool (decide_eq_false h_17)) rfl) ?_
          refine JL.nil ?_
          refine JQ.seq ?_
          by_cases h_18 : n_14 < 0
          · skip
            refine JC.condT (congrArg Value.bool (decide_eq_true h_18)) ?_
            refine JC.seq ?_
            refine JC.region ?_
            refine JL.pure rfl (PO.assign (v := str []) rfl) ?_
            refine JL.pure rfl (PO.assign (v := .bool false) rfl) ?_
            refine JL.nil ?_
            refine JQ.seq ?_
            refine JC.ret ?_
            refine JQ.thenRet ?_
            refine JQ.blockRet ?_
            refine JQ.thenRet ?_
            refine JQ.thenRet ?_
            refine JQ.blockRet ?_
            refine JQ.thenRet ?_
            refine Done.two (.inl rfl) rfl (RV.tmp (v := str []) rfl) (RV.tmp (v := .bool false) rfl) (List.nil_sublist _) ?_
            exact ⟨[], false, (by first | exact unhex_bad (by omega) | exact unhex_some (by rw [List.drop_of_length_le (by omega)] at hR; rw [← hR]; simp [unhexL]) (by assumption) | exact unhex_none (by rw [unhexL_step (by omega)] at hR; simp only [e_11, e_15] at hR; rw [if_pos (by omega)] at hR; exact hR.symm)), (by first | omega | (simp only [List.length_append, List.length_cons, List.length_nil, List.length_take, List.length_drop]; omega)), rfl, rfl⟩
          · skip
            refine JC.condF (congrArg Value.bool (decide_eq_false h_18)) ?_
            refine JC.skip ?_
            refine JQ.seq ?_
            refine JC.region ?_
            refine JL.pure rfl (PO.move (v := .slice oa o_.length oc) he_6) ?_
            refine JL.pure rfl (PO.move (v := .int .i64 n_10) rfl) ?_
            refine JL.pure rfl (PO.mul (c := 16 * n_10) rfl rfl (wr (by omega))) ?_
            refine JL.pure rfl (PO.move (v := .int .i64 n_14) rfl) ?_
            refine JL.pure rfl (PO.add (c := (16 * n_10) + n_14) rfl rfl (wr (by omega))) ?_
            refine JL.pure rfl (PO.convI (c := (((UInt8.ofNat ((16 * n_10) + n_14).toNat).toNat : Nat) : Int)) Tryz.underlying3 Tryz.underlying5 rfl (wr8u (by omega) rfl)) ?_
            refine JL.op rfl (JO.buildSlice (ps := [(0, .int .u8 (((UInt8.ofNat ((16 * n_10) + n_14).toNat).toNat : Nat) : Int))]) (cur := #[.int .u8 (((UInt8.ofNat ((16 * n_10) + n_14).toNat).toNat : Nat) : Int)]) Tryz.underlying44 Tryz.sizeOf5 Tryz.zeroValue5 rfl (by kernel_rfl) (by decide) (by decide)) ?_
            rintro _ _ ⟨a_19, rfl, rfl⟩
            refine JL.op rfl (JO.append' 1 (q := 1) (news := ([UInt8.ofNat ((16 * n_10) + n_14).toNat] : List UInt8).map encB) (n' := (o_ ++ ([UInt8.ofNat ((16 * n_10) + n_14).toNat] : List UInt8)).length) (cs' := (o_ ++ ([UInt8.ofNat ((16 * n_10) + n_14).toNat] : List UInt8)).map encB) rfl Tryz.underlying44 Tryz.underlying44 Tryz.typeInfo5 rfl (by' := 1) rfl rfl rfl rfl rfl (fun w hw => Src.sees (hw.see (i := 0) rfl) (oneB _)) (by (try simp only [List.length_append, List.length_cons, List.length_nil, List.length_take, List.length_drop]); omega) (by (try simp only [List.length_append, List.length_cons, List.length_nil, List.length_take, List.length_drop]); omega) (by simp only [List.length_append, List.length_take, List.length_drop, List.length_cons, List.length_nil] <;> first | rfl | omega) (by simp only [List.map_append])) ?_
            rintro _ _ ⟨a_20, c_21, rfl, rfl⟩
            refine JL.pure rfl (PO.assign (v := .slice a_20 ((o_ ++ ([UInt8.ofNat ((16 * n_10) + n_14).toNat] : List UInt8)).length) c_21) rfl) ?_
            refine JL.nil ?_
            refine JQ.blockN ?_
            refine JQ.seq ?_
            refine JC.region ?_
            refine JL.pure rfl (PO.move (v := .int .i64 ((j : Nat) : Int)) he_7) ?_
            refine JL.pure rfl (PO.add (c := ((j + 2 : Nat) : Int)) rfl rfl (wr (by omega))) ?_
            refine JL.pure rfl (PO.assign (v := .int .i64 ((j + 2 : Nat) : Int)) rfl) ?_
            refine JL.nil ?_
            refine JQ.pick [1] (A := [Res.row (.slice a_20 ((o_ ++ ([UInt8.ofNat ((16 * n_10) + n_14).toNat] : List UInt8)).length) c_21) 5 1 ((o_ ++ ([UInt8.ofNat ((16 * n_10) + n_14).toNat] : List UInt8)).length) ((o_ ++ ([UInt8.ofNat ((16 * n_10) + n_14).toNat] : List UInt8)).map encB)]) rfl ?_
            refine JQ.again (t.length - (j + 2)) (by omega) ⟨j + 2, a_20, c_21, (o_ ++ ([UInt8.ofNat ((16 * n_10) + n_14).toNat] : List UInt8)), by omega, by omega, (by simp only [List.length_append, List.length_cons, List.length_nil]; omega), (by rw [unhexL_step (by omega)] at hR; simp only [e_11, e_15] at hR; rw [if_neg (by omega)] at hR; exact hR), he_5, rfl, rfl, rfl, rfl⟩
      · skip
        refine JC.condF (congrArg Value.bool (decide_eq_false h_8)) ?_
        refine JC.exit ?_
        refine JQ.thenExit ?_
        refine JQ.thenExit ?_
        refine JQ.blockE ?_
        refine JQ.seq ?_
        refine JC.seq ?_
        refine JC.region ?_
        refine JL.pure rfl (PO.move (v := .slice oa o_.length oc) he_6) ?_
        refine JL.ld rfl (LO.toStr 0 o_ rfl Tryz.underlying44 Tryz.underlying5 Tryz.underlying9 rfl rfl) ?_
        refine JL.pure rfl (PO.assign (v := str o_) rfl) ?_
        refine JL.pure rfl (PO.assign (v := .bool true) rfl) ?_
        refine JL.nil ?_
        refine JQ.seq ?_
        refine JC.ret ?_
        refine Done.two (.inl rfl) rfl (RV.tmp (v := str o_) rfl) (RV.tmp (v := .bool true) rfl) (List.nil_sublist _) ?_
        exact ⟨o_, true, (unhex_some (by rw [List.drop_of_length_le (by omega)] at hR; exact hR.symm.trans (by simp [unhexL])) (by omega)), (by first | omega | (simp only [List.length_append, List.length_cons, List.length_nil, List.length_take, List.length_drop]; omega)), rfl, rfl⟩
    · skip
      refine JC.condT (congrArg Value.bool (congrArg Bool.not (decide_eq_false h_2))) ?_
      refine JC.seq ?_
      refine JC.region ?_
      refine JL.pure rfl (PO.assign (v := str []) rfl) ?_
      refine JL.pure rfl (PO.assign (v := .bool false) rfl) ?_
      refine JL.nil ?_
      refine JQ.seq ?_
      refine JC.ret ?_
      refine JQ.thenRet ?_
      refine Done.two (.inl rfl) rfl (RV.tmp (v := str []) rfl) (RV.tmp (v := .bool false) rfl) (List.nil_sublist _) ?_
      exact ⟨[], false, (by first | exact unhex_bad (by omega) | exact unhex_some (by rw [List.drop_of_length_le (by omega)] at hR; rw [← hR]; simp [unhexL]) (by assumption) | exact unhex_none (by rw [unhexL_step (by omega)] at hR; simp only [if_true] at hR; rw [if_pos (by omega)] at hR; exact hR.symm)), (by first | omega | (simp only [List.length_append, List.length_cons, List.length_nil, List.length_take, List.length_drop]; omega)), rfl, rfl⟩

end Go.Proofs.YtenfajgpdhgknaaGreatDoor
