/-
  Texts of the walk, joined: what each one proves stands at its theorems.
-/
import Derived.Test.YtenfajgpdhgknaaGreatDoorS09MACH
import Derived.Test.YtenfajgpdhgknaaGreatDoorS06HELD
set_option linter.unusedSimpArgs false
set_option linter.unusedVariables false
set_option linter.unnecessarySimpa false
namespace Go.Proofs.YtenfajgpdhgknaaGreatDoor
open Go Go.RowKit
attribute [local irreducible] JL JC JQ JO LO PO JA JX Ct

theorem C_l01In (n lo hi : Int) :
    Ct Tryz.prog 144 [.int .i64 n, .int .i64 lo, .int .i64 hi] [] (fun _ => True) (fun v A' => v = .bool (decide (lo ≤ n) && decide (n ≤ hi)) ∧ A' = []) := by
  refine Ct.intro Tryz.func144 rfl Tryz.ntmps144 (Nat.le_of_ble_eq_true rfl) fun w0 hpre => ?_
  refine JC.seq ?_
  refine JC.region ?_
  refine JL.pure rfl (PO.assign (v := .bool false) rfl) ?_
  refine JL.nil ?_
  refine JQ.seq ?_
  refine JC.seq ?_
  refine JC.region ?_
  refine JL.pure rfl (PO.move (v := .int .i64 n) rfl) ?_
  refine JL.pure rfl (PO.move (v := .int .i64 lo) rfl) ?_
  refine JL.pure rfl (PO.geq rfl rfl) ?_
  refine JL.pure rfl (PO.move (v := .bool (decide (lo ≤ n))) rfl) ?_
  by_cases h_1 : lo ≤ n
  · skip
    refine JL.guardOn rfl rfl rfl (congrArg Value.bool (decide_eq_true h_1)) (JO.ofLO (LO.pure (PO.move (v := .int .i64 n) rfl))) ?_
    rintro _ _ ⟨rfl, rfl⟩
    refine JL.guardOn rfl rfl rfl (congrArg Value.bool (decide_eq_true h_1)) (JO.ofLO (LO.pure (PO.move (v := .int .i64 hi) rfl))) ?_
    rintro _ _ ⟨rfl, rfl⟩
    refine JL.guardOn rfl rfl rfl (congrArg Value.bool (decide_eq_true h_1)) (JO.ofLO (LO.pure (PO.leq rfl rfl))) ?_
    rintro _ _ ⟨rfl, rfl⟩
    refine JL.pure rfl (PO.pickT (v := .bool (decide (n ≤ hi))) (congrArg Value.bool (decide_eq_true h_1)) rfl) ?_
    refine JL.pure rfl (PO.assign (v := .bool (decide (n ≤ hi))) rfl) ?_
    refine JL.nil ?_
    refine JQ.seq ?_
    refine JC.ret ?_
    refine Done.one (.inl rfl) rfl (RV.tmp (v := .bool (decide (n ≤ hi))) rfl) (List.nil_sublist _) ?_
    refine ⟨?_, rfl⟩
    simp_all <;> omega
  · skip
    refine JL.guardOff (b := false) rfl rfl rfl (congrArg Value.bool (decide_eq_false h_1)) ?_
    refine JL.guardOff (b := false) rfl rfl rfl (congrArg Value.bool (decide_eq_false h_1)) ?_
    refine JL.guardOff (b := false) rfl rfl rfl (congrArg Value.bool (decide_eq_false h_1)) ?_
    refine JL.pure rfl (PO.pickF (v := .bool false) (congrArg Value.bool (decide_eq_false h_1)) rfl) ?_
    refine JL.pure rfl (PO.assign (v := .bool false) rfl) ?_
    refine JL.nil ?_
    refine JQ.seq ?_
    refine JC.ret ?_
    refine Done.one (.inl rfl) rfl (RV.tmp (v := .bool false) rfl) (List.nil_sublist _) ?_
    refine ⟨?_, rfl⟩
    simp_all <;> omega

theorem C_sKeyOk (key : Str) (hk : key.length ≤ 1000000000000) :
    Ct Tryz.prog 295 [str key] [] (fun _ => True) (fun v A' => v = .bool (keyOk key) ∧ A' = []) := by
  refine Ct.intro Tryz.func295 rfl Tryz.ntmps295 (Nat.le_of_ble_eq_true rfl) fun w0 hpre => ?_
  refine JC.seq ?_
  refine JC.region ?_
  refine JL.pure rfl (PO.assign (v := .bool false) rfl) ?_
  refine JL.nil ?_
  refine JQ.seq ?_
  refine JC.seq ?_
  refine JC.seq ?_
  refine JC.region ?_
  refine JL.pure rfl (PO.assign (v := .int .i64 0) rfl) ?_
  refine JL.nil ?_
  refine JQ.seq ?_
  refine JC.block ?_
  refine JC.loop (fun k_ e_ L_ => ∃ j : Nat, (j ≤ key.length) ∧ (∀ i, i < j → i < key.length → keyByte (key.getD i 0) = true) ∧ e_ 0 = str key ∧ e_ 3 = .int .i64 ((j : Nat) : Int) ∧ L_ = [] ∧ k_ = key.length - j) _ ⟨0, by omega, (fun i hi => absurd hi (Nat.not_lt_zero i)), rfl, rfl, rfl, rfl⟩ ?_
  rintro _ e_1 _ ⟨j, hj, hN, he_2, he_3, rfl, rfl⟩
  refine JC.seq ?_
  refine JC.seq ?_
  refine JC.region ?_
  refine JL.pure rfl (PO.move (v := .int .i64 ((j : Nat) : Int)) he_3) ?_
  refine JL.pure rfl (PO.move (v := str key) he_2) ?_
  refine JL.pure rfl (PO.lenS Tryz.underlying9 rfl) ?_
  refine JL.pure rfl (PO.lss rfl rfl) ?_
  refine JL.nil ?_
  refine JQ.seq ?_
  by_cases h_4 : ((j : Nat) : Int) < (key.length : Int)
  · skip
    refine JC.condT (congrArg Value.bool (decide_eq_true h_4)) ?_
    refine JC.skip ?_
    refine JQ.seq ?_
    refine JC.seq ?_
    refine JC.block ?_
    refine JC.seq ?_
    refine JC.region ?_
    refine JL.pure rfl (PO.move (v := str key) he_2) ?_
    refine JL.pure rfl (PO.move (v := .int .i64 ((j : Nat) : Int)) he_3) ?_
    refine JL.pure rfl (PO.indexS (i := j) (c := key.getD j 0) Tryz.underlying9 rfl rfl (getD_some (by omega))) ?_
    have hu_5 := UInt8.toNat_lt (key.getD j 0)
    refine JL.pure rfl (PO.convI (c := ((key.getD j 0).toNat : Int)) Tryz.underlying5 Tryz.underlying3 rfl (wr (by omega))) ?_
    refine JL.op rfl (JO.call [] Tryz.call144 rfl (C_l01In ((key.getD j 0).toNat : Int) 33 126) rfl (fun _ _ => trivial)) ?_
    rintro _ _ ⟨_, ⟨rfl, rfl⟩, rfl⟩
    refine JL.pure rfl (PO.not rfl) ?_
    refine JL.pure rfl (PO.move (v := .bool (!(decide (33 ≤ ((key.getD j 0).toNat : Int)) && decide (((key.getD j 0).toNat : Int) ≤ 126)))) rfl) ?_
    rcases Bool.eq_false_or_eq_true (decide (33 ≤ ((key.getD j 0).toNat : Int)) && decide (((key.getD j 0).toNat : Int) ≤ 126)) with h_6 | h_6
    · skip
      have h_6d := h_6
      simp only [Bool.and_eq_true, Bool.and_eq_false_iff, decide_eq_true_eq, decide_eq_false_iff_not] at h_6d
      refine JL.guardOn rfl rfl rfl (congrArg Value.bool (congrArg Bool.not h_6)) (JO.ofLO (LO.pure (PO.move (v := str key) he_2))) ?_
      rintro _ _ ⟨rfl, rfl⟩
      refine JL.guardOn rfl rfl rfl (congrArg Value.bool (congrArg Bool.not h_6)) (JO.ofLO (LO.pure (PO.move (v := .int .i64 ((j : Nat) : Int)) he_3))) ?_
      rintro _ _ ⟨rfl, rfl⟩
      refine JL.guardOn rfl rfl rfl (congrArg Value.bool (congrArg Bool.not h_6)) (JO.ofLO (LO.pure (PO.indexS (i := j) (c := key.getD j 0) Tryz.underlying9 rfl rfl (getD_some (by omega))))) ?_
      rintro _ _ ⟨rfl, rfl⟩
      have hu_7 := UInt8.toNat_lt (key.getD j 0)
      refine JL.guardOn rfl rfl rfl (congrArg Value.bool (congrArg Bool.not h_6)) (JO.ofLO (LO.pure (PO.eqlI rfl rfl))) ?_
      rintro _ _ ⟨rfl, rfl⟩
      refine JL.pure rfl (PO.pickF (v := .bool (decide (((key.getD j 0).toNat : Int) = 42))) (congrArg Value.bool (congrArg Bool.not h_6)) rfl) ?_
      refine JL.nil ?_
      refine JQ.seq ?_
      by_cases h_8 : ((key.getD j 0).toNat : Int) = 42
      · skip
        refine JC.condT (congrArg Value.bool (decide_eq_true h_8)) ?_
        refine JC.seq ?_
        refine JC.region ?_
        refine JL.pure rfl (PO.assign (v := .bool false) rfl) ?_
        refine JL.nil ?_
        refine JQ.seq ?_
        refine JC.ret ?_
        refine JQ.blockRet ?_
        refine JQ.thenRet ?_
        refine JQ.thenRet ?_
        refine JQ.blockRet ?_
        refine JQ.thenRet ?_
        refine Done.one (.inl rfl) rfl (RV.tmp (v := .bool false) rfl) (List.nil_sublist _) ?_
        refine ⟨?_, rfl⟩
        rw [keyOk_bad (j := j) (by omega) (by simp only [keyByte, Bool.and_eq_true, Bool.and_eq_false_iff, decide_eq_true_eq, decide_eq_false_iff_not, Bool.not_eq_true', Bool.not_eq_false']; omega)]
      · skip
        refine JC.condF (congrArg Value.bool (decide_eq_false h_8)) ?_
        refine JC.skip ?_
        refine JQ.blockN ?_
        refine JQ.seq ?_
        refine JC.region ?_
        refine JL.pure rfl (PO.move (v := .int .i64 ((j : Nat) : Int)) he_3) ?_
        refine JL.pure rfl (PO.add (c := ((j + 1 : Nat) : Int)) rfl rfl (wr (by omega))) ?_
        refine JL.pure rfl (PO.assign (v := .int .i64 ((j + 1 : Nat) : Int)) rfl) ?_
        refine JL.nil ?_
        refine JQ.again (key.length - (j + 1)) (by omega) ⟨j + 1, by omega, (fun i hi hl => if h : i = j then h ▸ (by simp only [keyByte, Bool.and_eq_true, Bool.and_eq_false_iff, decide_eq_true_eq, decide_eq_false_iff_not, Bool.not_eq_true', Bool.not_eq_false']; omega : keyByte (key.getD j 0) = true) else hN i (by omega) hl), he_2, rfl, rfl, rfl⟩
    · skip
      have h_6d := h_6
      simp only [Bool.and_eq_true, Bool.and_eq_false_iff, decide_eq_true_eq, decide_eq_false_iff_not] at h_6d
      refine JL.guardOff (b := true) rfl rfl rfl (congrArg Value.bool (congrArg Bool.not h_6)) ?_
      refine JL.guardOff (b := true) rfl rfl rfl (congrArg Value.bool (congrArg Bool.not h_6)) ?_
      refine JL.guardOff (b := true) rfl rfl rfl (congrArg Value.bool (congrArg Bool.not h_6)) ?_
      refine JL.guardOff (b := true) rfl rfl rfl (congrArg Value.bool (congrArg Bool.not h_6)) ?_
      refine JL.pure rfl (PO.pickT (v := .bool true) (congrArg Value.bool (congrArg Bool.not h_6)) rfl) ?_
      refine JL.nil ?_
      refine JQ.seq ?_
      refine JC.condT (congrArg Value.bool rfl) ?_
      refine JC.seq ?_
      refine JC.region ?_
      refine JL.pure rfl (PO.assign (v := .bool false) rfl) ?_
      refine JL.nil ?_
      refine JQ.seq ?_
      refine JC.ret ?_
      refine JQ.blockRet ?_
      refine JQ.thenRet ?_
      refine JQ.thenRet ?_
      refine JQ.blockRet ?_
      refine JQ.thenRet ?_
      refine Done.one (.inl rfl) rfl (RV.tmp (v := .bool false) rfl) (List.nil_sublist _) ?_
      refine ⟨?_, rfl⟩
      rw [keyOk_bad (j := j) (by omega) (by simp only [keyByte, Bool.and_eq_true, Bool.and_eq_false_iff, decide_eq_true_eq, decide_eq_false_iff_not, Bool.not_eq_true', Bool.not_eq_false']; omega)]
  · skip
    refine JC.condF (congrArg Value.bool (decide_eq_false h_4)) ?_
    refine JC.exit ?_
    refine JQ.thenExit ?_
    refine JQ.thenExit ?_
    refine JQ.blockE ?_
    refine JQ.seq ?_
    refine JC.seq ?_
    refine JC.region ?_
    refine JL.pure rfl (PO.move (v := str key) he_2) ?_
    refine JL.pure rfl (PO.lenS Tryz.underlying9 rfl) ?_
    refine JL.op rfl (JO.call [] Tryz.call144 rfl (C_l01In (key.length : Int) 1 40) rfl (fun _ _ => trivial)) ?_
    rintro _ _ ⟨_, ⟨rfl, rfl⟩, rfl⟩
    refine JL.pure rfl (PO.assign (v := .bool (decide (1 ≤ (key.length : Int)) && decide ((key.length : Int) ≤ 40))) rfl) ?_
    refine JL.nil ?_
    refine JQ.seq ?_
    refine JC.ret ?_
    refine Done.one (.inl rfl) rfl (RV.tmp (v := .bool (decide (1 ≤ (key.length : Int)) && decide ((key.length : Int) ≤ 40))) rfl) (List.nil_sublist _) ?_
    refine ⟨?_, rfl⟩
    rw [keyOk_good (j := j) (by omega) hN]
    exact congrArg Value.bool (by congr 1 <;> exact decide_eq_decide.2 (by omega))

theorem C_sGetKey (a : Option Addr) (c : Nat) (s : List Cell) (key : Str) (hn : s.length ≤ 1000000000000) :
    Ct Tryz.prog 218 [.slice a s.length c, str key] [] (fun w_ => Sees w_ (.slice a s.length c) 2 s.length (s.flatMap encC)) (fun v A' => v = str (getKey s key) ∧ A' = []) := by
  refine Ct.intro Tryz.func218 rfl Tryz.ntmps218 (Nat.le_of_ble_eq_true rfl) fun w0 hpre => ?_
  have hs_a : Sees w0 _ _ _ _ := hpre
  refine JC.seq ?_
  refine JC.region ?_
  refine JL.pure rfl (PO.assign (v := str []) rfl) ?_
  refine JL.nil ?_
  refine JQ.seq ?_
  refine JC.seq ?_
  refine JC.seq ?_
  refine JC.region ?_
  refine JL.pure rfl (PO.assign (v := .int .i64 0) rfl) ?_
  refine JL.nil ?_
  refine JQ.seq ?_
  refine JC.block ?_
  refine JC.loop (fun k_ e_ L_ => ∃ j : Nat, (j ≤ s.length) ∧ (getKey (s.drop j) key = getKey s key) ∧ e_ 0 = .slice a s.length c ∧ e_ 1 = str key ∧ e_ 5 = .int .i64 ((j : Nat) : Int) ∧ L_ = [] ∧ k_ = s.length - j) _ ⟨0, by omega, rfl, rfl, rfl, rfl, rfl, rfl⟩ ?_
  rintro _ e_1 _ ⟨j, hj, hR, he_2, he_3, he_4, rfl, rfl⟩
  refine JC.seq ?_
  refine JC.seq ?_
  refine JC.region ?_
  refine JL.pure rfl (PO.move (v := .int .i64 ((j : Nat) : Int)) he_4) ?_
  refine JL.pure rfl (PO.move (v := .slice a s.length c) he_2) ?_
  refine JL.pure rfl (PO.lenV Tryz.underlying29 rfl) ?_
  refine JL.pure rfl (PO.lss rfl rfl) ?_
  refine JL.nil ?_
  refine JQ.seq ?_
  by_cases h_5 : ((j : Nat) : Int) < ((s.length : Nat) : Int)
  · skip
    have hlt : j < s.length := by omega
    refine JC.condT (congrArg Value.bool (decide_eq_true h_5)) ?_
    refine JC.skip ?_
    refine JQ.seq ?_
    refine JC.seq ?_
    refine JC.block ?_
    refine JC.seq ?_
    refine JC.region ?_
    refine JL.pure rfl (PO.move (v := .slice a s.length c) he_2) ?_
    refine JL.pure rfl (PO.move (v := .int .i64 ((j : Nat) : Int)) he_4) ?_
    obtain ⟨hr_6, hr_6b, -⟩ := sees_some hs_a (by omega)
    refine JL.pure rfl (PO.indexAddrV (i := j) Tryz.underlying29 Tryz.sizeOf113 hr_6 hr_6b rfl rfl (by omega)) ?_
    refine JL.pure rfl (PO.fieldAddrE fo113_0 hr_6 rfl) ?_
    refine JL.ld rfl (LO.loadS1 (v := str ((s.getD j c0).1)) hs_a (fun _ _ => List.not_mem_nil) rfl Tryz.isAgg9 (atC1 (by omega))) ?_
    refine JL.pure rfl (PO.move (v := str key) he_3) ?_
    refine JL.pure rfl (PO.eqlS rfl rfl) ?_
    refine JL.nil ?_
    refine JQ.seq ?_
    by_cases h_7 : ((s.getD j c0).1) = key
    · skip
      have hk := h_7
      refine JC.condT (congrArg Value.bool (decide_eq_true h_7)) ?_
      refine JC.seq ?_
      refine JC.region ?_
      refine JL.pure rfl (PO.move (v := .slice a s.length c) he_2) ?_
      refine JL.pure rfl (PO.move (v := .int .i64 ((j : Nat) : Int)) he_4) ?_
      refine JL.pure rfl (PO.indexAddrV (i := j) Tryz.underlying29 Tryz.sizeOf113 hr_6 hr_6b rfl rfl (by omega)) ?_
      refine JL.pure rfl (PO.fieldAddrE fo113_1 hr_6 rfl) ?_
      refine JL.ld rfl (LO.loadS1 (v := str ((s.getD j c0).2)) hs_a (fun _ _ => List.not_mem_nil) rfl Tryz.isAgg9 (atC2 (by omega))) ?_
      refine JL.pure rfl (PO.assign (v := str ((s.getD j c0).2)) rfl) ?_
      refine JL.nil ?_
      refine JQ.seq ?_
      refine JC.ret ?_
      refine JQ.blockRet ?_
      refine JQ.thenRet ?_
      refine JQ.thenRet ?_
      refine JQ.blockRet ?_
      refine JQ.thenRet ?_
      refine Done.one (.inl rfl) rfl (RV.tmp (v := str ((s.getD j c0).2)) rfl) (List.nil_sublist _) ?_
      refine ⟨?_, rfl⟩
      rw [drop_at (getD_some (d := c0) hlt), getKey, if_pos hk] at hR
      rw [← hR]
    · skip
      have hk := h_7
      refine JC.condF (congrArg Value.bool (decide_eq_false h_7)) ?_
      refine JC.skip ?_
      refine JQ.blockN ?_
      refine JQ.seq ?_
      refine JC.region ?_
      refine JL.pure rfl (PO.move (v := .int .i64 ((j : Nat) : Int)) he_4) ?_
      refine JL.pure rfl (PO.add (c := ((j + 1 : Nat) : Int)) rfl rfl (wr (by omega))) ?_
      refine JL.pure rfl (PO.assign (v := .int .i64 ((j + 1 : Nat) : Int)) rfl) ?_
      refine JL.nil ?_
      refine JQ.again (s.length - (j + 1)) (by omega) ⟨j + 1, by omega, (by rw [drop_at (getD_some (d := c0) hlt), getKey, if_neg hk] at hR; exact hR), he_2, he_3, rfl, rfl, rfl⟩
  · skip
    refine JC.condF (congrArg Value.bool (decide_eq_false h_5)) ?_
    refine JC.exit ?_
    refine JQ.thenExit ?_
    refine JQ.thenExit ?_
    refine JQ.blockE ?_
    refine JQ.seq ?_
    refine JC.seq ?_
    refine JC.region ?_
    refine JL.pure rfl (PO.assign (v := str []) rfl) ?_
    refine JL.nil ?_
    refine JQ.seq ?_
    refine JC.ret ?_
    refine Done.one (.inl rfl) rfl (RV.tmp (v := str []) rfl) (List.nil_sublist _) ?_
    refine ⟨?_, rfl⟩
    rw [List.drop_of_length_le (by omega)] at hR
    rw [← hR]
    rfl

theorem C_sPutKey (a : Option Addr) (c : Nat) (s : List Cell) (key val : Str) (hn : s.length ≤ 100000000000) (hk_ : key.length ≤ 1000000000000) :
    Ct Tryz.prog 280 [.slice a s.length c, str key, str val] [] (fun w_ => Sees w_ (.slice a s.length c) 2 s.length (s.flatMap encC)) (fun v A' => ∃ a' c', v = .slice a' (putKey s key val).length c' ∧ A' = [.row (.slice a' (putKey s key val).length c') 113 2 (putKey s key val).length ((putKey s key val).flatMap encC)]) := by
  refine Ct.intro Tryz.func280 rfl Tryz.ntmps280 (Nat.le_of_ble_eq_true rfl) fun w0 hpre => ?_
  have hs_a : Sees w0 _ _ _ _ := hpre
  refine JC.seq ?_
  refine JC.region ?_
  refine JL.pure rfl (PO.assign (v := .slice none 0 0) rfl) ?_
  refine JL.nil ?_
  refine JQ.seq ?_
  refine JC.seq ?_
  refine JC.region ?_
  refine JL.op rfl (JO.buildSlice (ps := []) (cur := #[]) Tryz.underlying29 Tryz.sizeOf113 Tryz.zeroValue113 rfl (by kernel_rfl) (by decide) (by decide)) ?_
  rintro _ _ ⟨a_1, rfl, rfl⟩
  refine JL.pure rfl (PO.assign (v := .slice a_1 0 0) rfl) ?_
  refine JL.nil ?_
  refine JQ.seq ?_
  refine JC.seq ?_
  refine JC.seq ?_
  refine JC.region ?_
  refine JL.pure rfl (PO.move (v := str key) rfl) ?_
  refine JL.op rfl (JO.call [] Tryz.call295 rfl (C_sKeyOk key (by omega)) rfl (fun _ _ => trivial)) ?_
  rintro _ _ ⟨_, ⟨rfl, rfl⟩, rfl⟩
  refine JL.pure rfl (PO.not rfl) ?_
  refine JL.pure rfl (PO.move (v := .bool (!(keyOk key))) rfl) ?_
  rcases Bool.eq_false_or_eq_true (keyOk key) with h_2 | h_2
  · skip
    have hkey := h_2
    refine JL.guardOn rfl rfl rfl (congrArg Value.bool (congrArg Bool.not h_2)) (JO.ofLO (LO.pure (PO.move (v := str val) rfl))) ?_
    rintro _ _ ⟨rfl, rfl⟩
    refine JL.guardOn rfl rfl rfl (congrArg Value.bool (congrArg Bool.not h_2)) (JO.ofLO (LO.pure (PO.lenS Tryz.underlying9 rfl))) ?_
    rintro _ _ ⟨rfl, rfl⟩
    refine JL.guardOn rfl rfl rfl (congrArg Value.bool (congrArg Bool.not h_2)) (JO.ofLO (LO.pure (PO.gtr rfl rfl))) ?_
    rintro _ _ ⟨rfl, rfl⟩
    refine JL.pure rfl (PO.pickF (v := .bool (decide (60 < (val.length : Int)))) (congrArg Value.bool (congrArg Bool.not h_2)) rfl) ?_
    refine JL.nil ?_
    refine JQ.seq ?_
    by_cases h_3 : 60 < (val.length : Int)
    · skip
      refine JC.condT (congrArg Value.bool (decide_eq_true h_3)) ?_
      refine JC.seq ?_
      refine JC.region ?_
      refine JL.pure rfl (PO.move (v := .slice a_1 0 0) rfl) ?_
      refine JL.pure rfl (PO.move (v := .slice a s.length c) rfl) ?_
      refine JL.op rfl (JO.append' 0 (q := s.length) (news := s.flatMap encC) (n' := s.length) (cs' := s.flatMap encC) rfl Tryz.underlying29 Tryz.underlying29 Tryz.typeInfo113 rfl (by' := 32) rfl rfl rfl rfl rfl (fun w hw => Src.sees (hw.seeOut_ hs_a (fun _ _ => List.not_mem_nil)) (oneC _)) (by (try simp only [List.length_append, List.length_cons, List.length_nil, List.length_take, List.length_drop]); omega) (by (try simp only [List.length_append, List.length_cons, List.length_nil, List.length_take, List.length_drop]); omega) (by (try simp only [List.length_take, List.length_drop]); first | rfl | omega) rfl) ?_
      rintro _ _ ⟨a_4, c_5, rfl, rfl⟩
      refine JL.pure rfl (PO.assign (v := .slice a_4 s.length c_5) rfl) ?_
      refine JL.nil ?_
      refine JQ.seq ?_
      refine JC.ret ?_
      refine JQ.thenRet ?_
      refine Done.one (.inl rfl) rfl (RV.tmp (v := .slice a_4 s.length c_5) rfl) (List.Sublist.refl _) ?_
      have he := (putKey_bad2 (by omega) : putKey s key val = _)
      exact ⟨_, _, by rw [he] <;> rfl, by rw [he] <;> rfl⟩
    · skip
      refine JC.condF (congrArg Value.bool (decide_eq_false h_3)) ?_
      refine JC.skip ?_
      refine JQ.seq ?_
      refine JC.seq ?_
      refine JC.region ?_
      refine JL.pure rfl (PO.move (v := str val) rfl) ?_
      refine JL.pure rfl (PO.eqlS rfl rfl) ?_
      refine JL.pure rfl (PO.assign (v := .bool (decide (val = []))) rfl) ?_
      refine JL.nil ?_
      refine JQ.seq ?_
      refine JC.seq ?_
      refine JC.seq ?_
      refine JC.region ?_
      refine JL.pure rfl (PO.assign (v := .int .i64 0) rfl) ?_
      refine JL.nil ?_
      refine JQ.seq ?_
      refine JC.block ?_
      refine JC.loop (fun k_ e_ L_ => ∃ j : Nat, ∃ xa : Option Addr, ∃ xc : Nat, ∃ o_ : List Cell, ∃ done : Bool, (j ≤ s.length) ∧ (o_.length ≤ 2 * j) ∧ (o_ ++ putL key val done (s.drop j) = putKey s key val) ∧ e_ 0 = .slice a s.length c ∧ e_ 1 = str key ∧ e_ 2 = str val ∧ e_ 6 = .slice none 0 0 ∧ e_ 7 = .slice xa o_.length xc ∧ e_ 8 = .bool done ∧ e_ 9 = .int .i64 ((j : Nat) : Int) ∧ L_ = [Res.row (.slice xa o_.length xc) 113 2 o_.length (o_.flatMap encC)] ∧ k_ = s.length - j) _ ⟨0, a_1, 0, [], (decide (val = [])), by omega, (by simp), (putL_put hkey (by omega)), rfl, rfl, rfl, rfl, rfl, rfl, rfl, rfl, rfl⟩ ?_
      rintro _ e_6 _ ⟨j, xa, xc, o_, done, hj, hl, hR, he_7, he_8, he_9, he_10, he_11, he_12, he_13, rfl, rfl⟩
      refine JC.seq ?_
      refine JC.seq ?_
      refine JC.region ?_
      refine JL.pure rfl (PO.move (v := .int .i64 ((j : Nat) : Int)) he_13) ?_
      refine JL.pure rfl (PO.move (v := .slice a s.length c) he_7) ?_
      refine JL.pure rfl (PO.lenV Tryz.underlying29 rfl) ?_
      refine JL.pure rfl (PO.lss rfl rfl) ?_
      refine JL.nil ?_
      refine JQ.seq ?_
      by_cases h_14 : ((j : Nat) : Int) < ((s.length : Nat) : Int)
      · skip
        have hlt : j < s.length := by omega
        refine JC.condT (congrArg Value.bool (decide_eq_true h_14)) ?_
        refine JC.skip ?_
        refine JQ.seq ?_
        refine JC.seq ?_
        refine JC.block ?_
        refine JC.seq ?_
        refine JC.seq ?_
        refine JC.region ?_
        refine JL.pure rfl (PO.move (v := .bool done) he_12) ?_
        refine JL.pure rfl (PO.not rfl) ?_
        refine JL.pure rfl (PO.move (v := .bool (!done)) rfl) ?_
        rcases Bool.eq_false_or_eq_true (done) with h_15 | h_15
        · skip
          have hd := h_15
          refine JL.guardOff (b := false) rfl rfl rfl (congrArg Value.bool (congrArg Bool.not h_15)) ?_
          refine JL.guardOff (b := false) rfl rfl rfl (congrArg Value.bool (congrArg Bool.not h_15)) ?_
          refine JL.guardOff (b := false) rfl rfl rfl (congrArg Value.bool (congrArg Bool.not h_15)) ?_
          refine JL.guardOff (b := false) rfl rfl rfl (congrArg Value.bool (congrArg Bool.not h_15)) ?_
          refine JL.guardOff (b := false) rfl rfl rfl (congrArg Value.bool (congrArg Bool.not h_15)) ?_
          refine JL.guardOff (b := false) rfl rfl rfl (congrArg Value.bool (congrArg Bool.not h_15)) ?_
          refine JL.guardOff (b := false) rfl rfl rfl (congrArg Value.bool (congrArg Bool.not h_15)) ?_
          refine JL.pure rfl (PO.pickF (v := .bool false) (congrArg Value.bool (congrArg Bool.not h_15)) rfl) ?_
          refine JL.nil ?_
          refine JQ.seq ?_
          refine JC.condF (congrArg Value.bool rfl) ?_
          refine JC.skip ?_
          refine JQ.seq ?_
          refine JC.seq ?_
          refine JC.region ?_
          refine JL.pure rfl (PO.move (v := .slice a s.length c) he_7) ?_
          refine JL.pure rfl (PO.move (v := .int .i64 ((j : Nat) : Int)) he_13) ?_
          obtain ⟨hr_16, hr_16b, -⟩ := sees_some hs_a (by omega)
          refine JL.pure rfl (PO.indexAddrV (i := j) Tryz.underlying29 Tryz.sizeOf113 hr_16 hr_16b rfl rfl (by omega)) ?_
          refine JL.pure rfl (PO.fieldAddrE fo113_0 hr_16 rfl) ?_
          refine JL.ld rfl (LO.loadS1 (v := str ((s.getD j c0).1)) hs_a (fun _ _ => List.not_mem_nil) rfl Tryz.isAgg9 (atC1 (by omega))) ?_
          refine JL.pure rfl (PO.move (v := str key) he_8) ?_
          refine JL.pure rfl (PO.neqS rfl rfl) ?_
          refine JL.nil ?_
          refine JQ.seq ?_
          by_cases h_17 : ((s.getD j c0).1) = key
          · skip
            have hk := h_17
            refine JC.condF (congrArg Value.bool (congrArg Bool.not (decide_eq_true h_17))) ?_
            refine JC.skip ?_
            refine JQ.blockN ?_
            refine JQ.seq ?_
            refine JC.region ?_
            refine JL.pure rfl (PO.move (v := .int .i64 ((j : Nat) : Int)) he_13) ?_
            refine JL.pure rfl (PO.add (c := ((j + 1 : Nat) : Int)) rfl rfl (wr (by omega))) ?_
            refine JL.pure rfl (PO.assign (v := .int .i64 ((j + 1 : Nat) : Int)) rfl) ?_
            refine JL.nil ?_
            refine JQ.pick [0] (A := [Res.row (.slice xa o_.length xc) 113 2 o_.length (o_.flatMap encC)]) rfl ?_
            refine JQ.again (s.length - (j + 1)) (by omega) ⟨j + 1, xa, xc, o_, done, by omega, (by (try simp only [List.length_append, List.length_cons, List.length_nil]); omega), (by rw [putL_step hlt] at hR; simp only [hd, hk, Bool.not_true, Bool.not_false, Bool.true_and, Bool.false_and, Bool.or_true, Bool.true_or, Bool.or_false, Bool.false_or, if_true, if_false, Bool.false_eq_true, List.nil_append, List.append_nil, List.append_assoc] at hR ⊢; exact hR), he_7, he_8, he_9, he_10, he_11, he_12, rfl, rfl, rfl⟩
          · skip
            have hk := h_17
            refine JC.condT (congrArg Value.bool (congrArg Bool.not (decide_eq_false h_17))) ?_
            refine JC.region ?_
            refine JL.pure rfl (PO.move (v := .slice xa o_.length xc) he_11) ?_
            refine JL.pure rfl (PO.move (v := .slice a s.length c) he_7) ?_
            refine JL.pure rfl (PO.move (v := .int .i64 ((j : Nat) : Int)) he_13) ?_
            refine JL.pure rfl (PO.indexAddrV (i := j) Tryz.underlying29 Tryz.sizeOf113 hr_16 hr_16b rfl rfl (by omega)) ?_
            refine JL.ld rfl (LO.loadSK (vs := [str ((s.getD j c0).1), str ((s.getD j c0).2)]) hs_a (fun _ _ => List.not_mem_nil) rfl Tryz.isAgg113 Tryz.sizeOf113 (atC (by omega)) rfl (by decide)) ?_
            refine JL.op rfl (JO.buildSlice (ps := [(0, .agg #[str ((s.getD j c0).1), str ((s.getD j c0).2)])]) (cur := #[str ((s.getD j c0).1), str ((s.getD j c0).2)]) Tryz.underlying29 Tryz.sizeOf113 Tryz.zeroValue113 rfl (by kernel_rfl) (by decide) (by decide)) ?_
            rintro _ _ ⟨a_18, rfl, rfl⟩
            refine JL.op rfl (JO.append' 1 (q := 1) (news := ([((s.getD j c0).1, (s.getD j c0).2)] : List Cell).flatMap encC) (n' := (o_ ++ ([((s.getD j c0).1, (s.getD j c0).2)] : List Cell)).length) (cs' := (o_ ++ ([((s.getD j c0).1, (s.getD j c0).2)] : List Cell)).flatMap encC) rfl Tryz.underlying29 Tryz.underlying29 Tryz.typeInfo113 rfl (by' := 32) rfl rfl rfl rfl rfl (fun w hw => Src.sees (hw.see (i := 0) rfl) (oneC _)) (by (try simp only [List.length_append, List.length_cons, List.length_nil, List.length_take, List.length_drop]); omega) (by (try simp only [List.length_append, List.length_cons, List.length_nil, List.length_take, List.length_drop]); omega) (by simp only [List.length_append, List.length_take, List.length_drop, List.length_cons, List.length_nil] <;> first | rfl | omega) (by simp only [List.flatMap_append])) ?_
            rintro _ _ ⟨a_19, c_20, rfl, rfl⟩
            refine JL.pure rfl (PO.assign (v := .slice a_19 ((o_ ++ ([((s.getD j c0).1, (s.getD j c0).2)] : List Cell)).length) c_20) rfl) ?_
            refine JL.nil ?_
            refine JQ.blockN ?_
            refine JQ.seq ?_
            refine JC.region ?_
            refine JL.pure rfl (PO.move (v := .int .i64 ((j : Nat) : Int)) he_13) ?_
            refine JL.pure rfl (PO.add (c := ((j + 1 : Nat) : Int)) rfl rfl (wr (by omega))) ?_
            refine JL.pure rfl (PO.assign (v := .int .i64 ((j + 1 : Nat) : Int)) rfl) ?_
            refine JL.nil ?_
            refine JQ.pick [1] (A := [Res.row (.slice a_19 ((o_ ++ ([((s.getD j c0).1, (s.getD j c0).2)] : List Cell)).length) c_20) 113 2 ((o_ ++ ([((s.getD j c0).1, (s.getD j c0).2)] : List Cell)).length) ((o_ ++ ([((s.getD j c0).1, (s.getD j c0).2)] : List Cell)).flatMap encC)]) rfl ?_
            refine JQ.again (s.length - (j + 1)) (by omega) ⟨j + 1, a_19, c_20, (o_ ++ ([((s.getD j c0).1, (s.getD j c0).2)] : List Cell)), done, by omega, (by (try simp only [List.length_append, List.length_cons, List.length_nil]); omega), (by rw [putL_step hlt] at hR; simp only [hd, hk, Bool.not_true, Bool.not_false, Bool.true_and, Bool.false_and, Bool.or_true, Bool.true_or, Bool.or_false, Bool.false_or, if_true, if_false, Bool.false_eq_true, List.nil_append, List.append_nil, List.append_assoc] at hR ⊢; exact hR), he_7, he_8, he_9, he_10, rfl, he_12, rfl, rfl, rfl⟩
        · skip
          have hd := h_15
          refine JL.guardOn rfl rfl rfl (congrArg Value.bool (congrArg Bool.not h_15)) (JO.ofLO (LO.pure (PO.move (v := .slice a s.length c) he_7))) ?_
          rintro _ _ ⟨rfl, rfl⟩
          refine JL.guardOn rfl rfl rfl (congrArg Value.bool (congrArg Bool.not h_15)) (JO.ofLO (LO.pure (PO.move (v := .int .i64 ((j : Nat) : Int)) he_13))) ?_
          rintro _ _ ⟨rfl, rfl⟩
          obtain ⟨hr_21, hr_21b, -⟩ := sees_some hs_a (by omega)
          refine JL.guardOn rfl rfl rfl (congrArg Value.bool (congrArg Bool.not h_15)) (JO.ofLO (LO.pure (PO.indexAddrV (i := j) Tryz.underlying29 Tryz.sizeOf113 hr_21 hr_21b rfl rfl (by omega)))) ?_
          rintro _ _ ⟨rfl, rfl⟩
          refine JL.guardOn rfl rfl rfl (congrArg Value.bool (congrArg Bool.not h_15)) (JO.ofLO (LO.pure (PO.fieldAddrE fo113_0 hr_21 rfl))) ?_
          rintro _ _ ⟨rfl, rfl⟩
          refine JL.guardOn rfl rfl rfl (congrArg Value.bool (congrArg Bool.not h_15)) (JO.ofLO (LO.loadS1 (v := str ((s.getD j c0).1)) hs_a (fun _ _ => List.not_mem_nil) rfl Tryz.isAgg9 (atC1 (by omega)))) ?_
          rintro _ _ ⟨rfl, rfl⟩
          refine JL.guardOn rfl rfl rfl (congrArg Value.bool (congrArg Bool.not h_15)) (JO.ofLO (LO.pure (PO.move (v := str key) he_8))) ?_
          rintro _ _ ⟨rfl, rfl⟩
          refine JL.guardOn rfl rfl rfl (congrArg Value.bool (congrArg Bool.not h_15)) (JO.ofLO (LO.pure (PO.gtrS rfl rfl))) ?_
          rintro _ _ ⟨rfl, rfl⟩
          refine JL.pure rfl (PO.pickT (v := .bool (!Op.bytesLess ((s.getD j c0).1) key && !decide (((s.getD j c0).1) = key))) (congrArg Value.bool (congrArg Bool.not h_15)) rfl) ?_
          refine JL.nil ?_
          refine JQ.seq ?_
          rcases Bool.eq_false_or_eq_true (!Op.bytesLess ((s.getD j c0).1) key && !decide (((s.getD j c0).1) = key)) with h_22 | h_22
          · skip
            have h_22d := h_22
            simp only [Bool.and_eq_true, Bool.and_eq_false_iff, decide_eq_true_eq, decide_eq_false_iff_not] at h_22d
            have hg : gtrB (s.getD j c0).1 key = true := h_22
            refine JC.condT (congrArg Value.bool h_22) ?_
            refine JC.seq ?_
            refine JC.region ?_
            refine JL.pure rfl (PO.move (v := .slice xa o_.length xc) he_11) ?_
            refine JL.pure rfl (PO.move (v := str key) he_8) ?_
            refine JL.pure rfl (PO.move (v := str val) he_9) ?_
            refine JL.pure rfl (PO.build (ps := [(0, str key), (1, str val)]) (cs := [str key, str val]) rfl (by kernel_rfl)) ?_
            refine JL.op rfl (JO.buildSlice (ps := [(0, .agg #[str key, str val])]) (cur := #[str key, str val]) Tryz.underlying29 Tryz.sizeOf113 Tryz.zeroValue113 rfl (by kernel_rfl) (by decide) (by decide)) ?_
            rintro _ _ ⟨a_23, rfl, rfl⟩
            refine JL.op rfl (JO.append' 1 (q := 1) (news := ([(key, val)] : List Cell).flatMap encC) (n' := (o_ ++ ([(key, val)] : List Cell)).length) (cs' := (o_ ++ ([(key, val)] : List Cell)).flatMap encC) rfl Tryz.underlying29 Tryz.underlying29 Tryz.typeInfo113 rfl (by' := 32) rfl rfl rfl rfl rfl (fun w hw => Src.sees (hw.see (i := 0) rfl) (oneC _)) (by (try simp only [List.length_append, List.length_cons, List.length_nil, List.length_take, List.length_drop]); omega) (by (try simp only [List.length_append, List.length_cons, List.length_nil, List.length_take, List.length_drop]); omega) (by simp only [List.length_append, List.length_take, List.length_drop, List.length_cons, List.length_nil] <;> first | rfl | omega) (by simp only [List.flatMap_append])) ?_
            rintro _ _ ⟨a_24, c_25, rfl, rfl⟩
            refine JL.pure rfl (PO.assign (v := .slice a_24 ((o_ ++ ([(key, val)] : List Cell)).length) c_25) rfl) ?_
            refine JL.nil ?_
            refine JQ.seq ?_
            refine JC.region ?_
            refine JL.pure rfl (PO.assign (v := .bool true) rfl) ?_
            refine JL.nil ?_
            refine JQ.seq ?_
            refine JC.seq ?_
            refine JC.region ?_
            refine JL.pure rfl (PO.move (v := .slice a s.length c) he_7) ?_
            refine JL.pure rfl (PO.move (v := .int .i64 ((j : Nat) : Int)) he_13) ?_
            refine JL.pure rfl (PO.indexAddrV (i := j) Tryz.underlying29 Tryz.sizeOf113 hr_21 hr_21b rfl rfl (by omega)) ?_
            refine JL.pure rfl (PO.fieldAddrE fo113_0 hr_21 rfl) ?_
            refine JL.ld rfl (LO.loadS1 (v := str ((s.getD j c0).1)) hs_a (fun _ _ => List.not_mem_nil) rfl Tryz.isAgg9 (atC1 (by omega))) ?_
            refine JL.pure rfl (PO.move (v := str key) he_8) ?_
            refine JL.pure rfl (PO.neqS rfl rfl) ?_
            refine JL.nil ?_
            refine JQ.seq ?_
            by_cases h_26 : ((s.getD j c0).1) = key
            · skip
              have hk := h_26
              have hg2 : gtrB key key = true := hk ▸ hg
              refine JC.condF (congrArg Value.bool (congrArg Bool.not (decide_eq_true h_26))) ?_
              refine JC.skip ?_
              refine JQ.blockN ?_
              refine JQ.seq ?_
              refine JC.region ?_
              refine JL.pure rfl (PO.move (v := .int .i64 ((j : Nat) : Int)) he_13) ?_
              refine JL.pure rfl (PO.add (c := ((j + 1 : Nat) : Int)) rfl rfl (wr (by omega))) ?_
              refine JL.pure rfl (PO.assign (v := .int .i64 ((j + 1 : Nat) : Int)) rfl) ?_
              refine JL.nil ?_
              refine JQ.pick [1] (A := [Res.row (.slice a_24 ((o_ ++ ([(key, val)] : List Cell)).length) c_25) 113 2 ((o_ ++ ([(key, val)] : List Cell)).length) ((o_ ++ ([(key, val)] : List Cell)).flatMap encC)]) rfl ?_
              refine JQ.again (s.length - (j + 1)) (by omega) ⟨j + 1, a_24, c_25, (o_ ++ ([(key, val)] : List Cell)), true, by omega, (by (try simp only [List.length_append, List.length_cons, List.length_nil]); omega), (by rw [putL_step hlt] at hR; simp only [hd, hg, hg2, hk, Bool.not_true, Bool.not_false, Bool.true_and, Bool.false_and, Bool.or_true, Bool.true_or, Bool.or_false, Bool.false_or, if_true, if_false, Bool.false_eq_true, List.nil_append, List.append_nil, List.append_assoc] at hR ⊢; exact hR), he_7, he_8, he_9, he_10, rfl, rfl, rfl, rfl, rfl⟩
            · skip
              have hk := h_26
              refine JC.condT (congrArg Value.bool (congrArg Bool.not (decide_eq_false h_26))) ?_
              refine JC.region ?_
              refine JL.pure rfl (PO.move (v := .slice a_24 ((o_ ++ ([(key, val)] : List Cell)).length) c_25) rfl) ?_
              refine JL.pure rfl (PO.move (v := .slice a s.length c) he_7) ?_
              refine JL.pure rfl (PO.move (v := .int .i64 ((j : Nat) : Int)) he_13) ?_
              refine JL.pure rfl (PO.indexAddrV (i := j) Tryz.underlying29 Tryz.sizeOf113 hr_21 hr_21b rfl rfl (by omega)) ?_
              refine JL.ld rfl (LO.loadSK (vs := [str ((s.getD j c0).1), str ((s.getD j c0).2)]) hs_a (fun _ _ => List.not_mem_nil) rfl Tryz.isAgg113 Tryz.sizeOf113 (atC (by omega)) rfl (by decide)) ?_
              refine JL.op rfl (JO.buildSlice (ps := [(0, .agg #[str ((s.getD j c0).1), str ((s.getD j c0).2)])]) (cur := #[str ((s.getD j c0).1), str ((s.getD j c0).2)]) Tryz.underlying29 Tryz.sizeOf113 Tryz.zeroValue113 rfl (by kernel_rfl) (by decide) (by decide)) ?_
              rintro _ _ ⟨a_27, rfl, rfl⟩
              refine JL.op rfl (JO.append' 2 (q := 1) (news := ([((s.getD j c0).1, (s.getD j c0).2)] : List Cell).flatMap encC) (n' := ((o_ ++ ([(key, val)] : List Cell)) ++ ([((s.getD j c0).1, (s.getD j c0).2)] : List Cell)).length) (cs' := ((o_ ++ ([(key, val)] : List Cell)) ++ ([((s.getD j c0).1, (s.getD j c0).2)] : List Cell)).flatMap encC) rfl Tryz.underlying29 Tryz.underlying29 Tryz.typeInfo113 rfl (by' := 32) rfl rfl rfl rfl rfl (fun w hw => Src.sees (hw.see (i := 0) rfl) (oneC _)) (by (try simp only [List.length_append, List.length_cons, List.length_nil, List.length_take, List.length_drop]); omega) (by (try simp only [List.length_append, List.length_cons, List.length_nil, List.length_take, List.length_drop]); omega) (by simp only [List.length_append, List.length_take, List.length_drop, List.length_cons, List.length_nil] <;> first | rfl | omega) (by simp only [List.flatMap_append])) ?_
              rintro _ _ ⟨a_28, c_29, rfl, rfl⟩
              refine JL.pure rfl (PO.assign (v := .slice a_28 (((o_ ++ ([(key, val)] : List Cell)) ++ ([((s.getD j c0).1, (s.getD j c0).2)] : List Cell)).length) c_29) rfl) ?_
              refine JL.nil ?_
              refine JQ.blockN ?_
              refine JQ.seq ?_
              refine JC.region ?_
              refine JL.pure rfl (PO.move (v := .int .i64 ((j : Nat) : Int)) he_13) ?_
              refine JL.pure rfl (PO.add (c := ((j + 1 : Nat) : Int)) rfl rfl (wr (by omega))) ?_
              refine JL.pure rfl (PO.assign (v := .int .i64 ((j + 1 : Nat) : Int)) rfl) ?_
              refine JL.nil ?_
              refine JQ.pick [2] (A := [Res.row (.slice a_28 (((o_ ++ ([(key, val)] : List Cell)) ++ ([((s.getD j c0).1, (s.getD j c0).2)] : List Cell)).length) c_29) 113 2 (((o_ ++ ([(key, val)] : List Cell)) ++ ([((s.getD j c0).1, (s.getD j c0).2)] : List Cell)).length) (((o_ ++ ([(key, val)] : List Cell)) ++ ([((s.getD j c0).1, (s.getD j c0).2)] : List Cell)).flatMap encC)]) rfl ?_
              refine JQ.again (s.length - (j + 1)) (by omega) ⟨j + 1, a_28, c_29, ((o_ ++ ([(key, val)] : List Cell)) ++ ([((s.getD j c0).1, (s.getD j c0).2)] : List Cell)), true, by omega, (by (try simp only [List.length_append, List.length_cons, List.length_nil]); omega), (by rw [putL_step hlt] at hR; simp only [hd, hg, hk, Bool.not_true, Bool.not_false, Bool.true_and, Bool.false_and, Bool.or_true, Bool.true_or, Bool.or_false, Bool.false_or, if_true, if_false, Bool.false_eq_true, List.nil_append, List.append_nil, List.append_assoc] at hR ⊢; exact hR), he_7, he_8, he_9, he_10, rfl, rfl, rfl, rfl, rfl⟩
          · skip
            have h_22d := h_22
            simp only [Bool.and_eq_true, Bool.and_eq_false_iff, decide_eq_true_eq, decide_eq_false_iff_not] at h_22d
            have hg : gtrB (s.getD j c0).1 key = false := h_22
            refine JC.condF (congrArg Value.bool h_22) ?_
            refine JC.skip ?_
            refine JQ.seq ?_
            refine JC.seq ?_
            refine JC.region ?_
            refine JL.pure rfl (PO.move (v := .slice a s.length c) he_7) ?_
            refine JL.pure rfl (PO.move (v := .int .i64 ((j : Nat) : Int)) he_13) ?_
            refine JL.pure rfl (PO.indexAddrV (i := j) Tryz.underlying29 Tryz.sizeOf113 hr_21 hr_21b rfl rfl (by omega)) ?_
            refine JL.pure rfl (PO.fieldAddrE fo113_0 hr_21 rfl) ?_
            refine JL.ld rfl (LO.loadS1 (v := str ((s.getD j c0).1)) hs_a (fun _ _ => List.not_mem_nil) rfl Tryz.isAgg9 (atC1 (by omega))) ?_
            refine JL.pure rfl (PO.move (v := str key) he_8) ?_
            refine JL.pure rfl (PO.neqS rfl rfl) ?_
            refine JL.nil ?_
            refine JQ.seq ?_
            by_cases h_30 : ((s.getD j c0).1) = key
            · skip
              have hk := h_30
              have hg2 : gtrB key key = false := hk ▸ hg
              refine JC.condF (congrArg Value.bool (congrArg Bool.not (decide_eq_true h_30))) ?_
              refine JC.skip ?_
              refine JQ.blockN ?_
              refine JQ.seq ?_
              refine JC.region ?_
              refine JL.pure rfl (PO.move (v := .int .i64 ((j : Nat) : Int)) he_13) ?_
              refine JL.pure rfl (PO.add (c := ((j + 1 : Nat) : Int)) rfl rfl (wr (by omega))) ?_
              refine JL.pure rfl (PO.assign (v := .int .i64 ((j + 1 : Nat) : Int)) rfl) ?_
              refine JL.nil ?_
              refine JQ.pick [0] (A := [Res.row (.slice xa o_.length xc) 113 2 o_.length (o_.flatMap encC)]) rfl ?_
              refine JQ.again (s.length - (j + 1)) (by omega) ⟨j + 1, xa, xc, o_, done, by omega, (by (try simp only [List.length_append, List.length_cons, List.length_nil]); omega), (by rw [putL_step hlt] at hR; simp only [hd, hg, hg2, hk, Bool.not_true, Bool.not_false, Bool.true_and, Bool.false_and, Bool.or_true, Bool.true_or, Bool.or_false, Bool.false_or, if_true, if_false, Bool.false_eq_true, List.nil_append, List.append_nil, List.append_assoc] at hR ⊢; exact hR), he_7, he_8, he_9, he_10, he_11, he_12, rfl, rfl, rfl⟩
            · skip
              have hk := h_30
              refine JC.condT (congrArg Value.bool (congrArg Bool.not (decide_eq_false h_30))) ?_
              refine JC.region ?_
              refine JL.pure rfl (PO.move (v := .slice xa o_.length xc) he_11) ?_
              refine JL.pure rfl (PO.move (v := .slice a s.length c) he_7) ?_
              refine JL.pure rfl (PO.move (v := .int .i64 ((j : Nat) : Int)) he_13) ?_
              refine JL.pure rfl (PO.indexAddrV (i := j) Tryz.underlying29 Tryz.sizeOf113 hr_21 hr_21b rfl rfl (by omega)) ?_
              refine JL.ld rfl (LO.loadSK (vs := [str ((s.getD j c0).1), str ((s.getD j c0).2)]) hs_a (fun _ _ => List.not_mem_nil) rfl Tryz.isAgg113 Tryz.sizeOf113 (atC (by omega)) rfl (by decide)) ?_
              refine JL.op rfl (JO.buildSlice (ps := [(0, .agg #[str ((s.getD j c0).1), str ((s.getD j c0).2)])]) (cur := #[str ((s.getD j c0).1), str ((s.getD j c0).2)]) Tryz.underlying29 Tryz.sizeOf113 Tryz.zeroValue113 rfl (by kernel_rfl) (by decide) (by decide)) ?_
              rintro _ _ ⟨a_31, rfl, rfl⟩
              refine JL.op rfl (JO.append' 1 (q := 1) (news := ([((s.getD j c0).1, (s.getD j c0).2)] : List Cell).flatMap encC) (n' := (o_ ++ ([((s.getD j c0).1, (s.getD j c0).2)] : List Cell)).length) (cs' := (o_ ++ ([((s.getD j c0).1, (s.getD j c0).2)] : List Cell)).flatMap encC) rfl Tryz.underlying29 Tryz.underlying29 Tryz.typeInfo113 rfl (by' := 32) rfl rfl rfl rfl rfl (fun w hw => Src.sees (hw.see (i := 0) rfl) (oneC _)) (by (try simp only [List.length_append, List.length_cons, List.length_nil, List.length_take, List.length_drop]); omega) (by (try simp only [List.length_append, List.length_cons, List.length_nil, List.length_take, List.length_drop]); omega) (by simp only [List.length_append, List.length_take, List.length_drop, List.length_cons, List.length_nil] <;> first | rfl | omega) (by simp only [List.flatMap_append])) ?_
              rintro _ _ ⟨a_32, c_33, rfl, rfl⟩
              refine JL.pure rfl (PO.assign (v := .slice a_32 ((o_ ++ ([((s.getD j c0).1, (s.getD j c0).2)] : List Cell)).length) c_33) rfl) ?_
              refine JL.nil ?_
              refine JQ.blockN ?_
              refine JQ.seq ?_
              refine JC.region ?_
              refine JL.pure rfl (PO.move (v := .int .i64 ((j : Nat) : Int)) he_13) ?_
              refine JL.pure rfl (PO.add (c := ((j + 1 : Nat) : Int)) rfl rfl (wr (by omega))) ?_
              refine JL.pure rfl (PO.assign (v := .int .i64 ((j + 1 : Nat) : Int)) rfl) ?_
              refine JL.nil ?_
              refine JQ.pick [1] (A := [Res.row (.slice a_32 ((o_ ++ ([((s.getD j c0).1, (s.getD j c0).2)] : List Cell)).length) c_33) 113 2 ((o_ ++ ([((s.getD j c0).1, (s.getD j c0).2)] : List Cell)).length) ((o_ ++ ([((s.getD j c0).1, (s.getD j c0).2)] : List Cell)).flatMap encC)]) rfl ?_
              refine JQ.again (s.length - (j + 1)) (by omega) ⟨j + 1, a_32, c_33, (o_ ++ ([((s.getD j c0).1, (s.getD j c0).2)] : List Cell)), done, by omega, (by (try simp only [List.length_append, List.length_cons, List.length_nil]); omega), (by rw [putL_step hlt] at hR; simp only [hd, hg, hk, Bool.not_true, Bool.not_false, Bool.true_and, Bool.false_and, Bool.or_true, Bool.true_or, Bool.or_false, Bool.false_or, if_true, if_false, Bool.false_eq_true, List.nil_append, List.append_nil, List.append_assoc] at hR ⊢; exact hR), he_7, he_8, he_9, he_10, rfl, he_12, rfl, rfl, rfl⟩
      · skip
        refine JC.condF (congrArg Value.bool (decide_eq_false h_14)) ?_
        refine JC.exit ?_
        refine JQ.thenExit ?_
        refine JQ.thenExit ?_
        refine JQ.blockE ?_
        refine JQ.seq ?_
        refine JC.seq ?_
        refine JC.seq ?_
        refine JC.region ?_
        refine JL.pure rfl (PO.move (v := .bool done) he_12) ?_
        refine JL.pure rfl (PO.not rfl) ?_
        refine JL.nil ?_
        refine JQ.seq ?_
        rcases Bool.eq_false_or_eq_true (done) with h_34 | h_34
        · skip
          have hd := h_34
          refine JC.condF (congrArg Value.bool (congrArg Bool.not h_34)) ?_
          refine JC.skip ?_
          refine JQ.seq ?_
          refine JC.seq ?_
          refine JC.region ?_
          refine JL.pure rfl (PO.move (v := .slice xa o_.length xc) he_11) ?_
          refine JL.pure rfl (PO.assign (v := .slice xa o_.length xc) rfl) ?_
          refine JL.nil ?_
          refine JQ.seq ?_
          refine JC.ret ?_
          refine Done.one (.inl rfl) rfl (RV.tmp (v := .slice xa o_.length xc) rfl) (List.Sublist.refl _) ?_
          rw [List.drop_of_length_le (by omega), putL] at hR
          simp only [hd, Bool.not_true, Bool.not_false, Bool.true_and, Bool.false_and, Bool.or_true, Bool.true_or, Bool.or_false, Bool.false_or, if_true, if_false, Bool.false_eq_true, List.nil_append, List.append_nil, List.append_assoc] at hR
          exact ⟨_, _, by rw [← hR] <;> rfl, by rw [← hR] <;> rfl⟩
        · skip
          have hd := h_34
          refine JC.condT (congrArg Value.bool (congrArg Bool.not h_34)) ?_
          refine JC.region ?_
          refine JL.pure rfl (PO.move (v := .slice xa o_.length xc) he_11) ?_
          refine JL.pure rfl (PO.move (v := str key) he_8) ?_
          refine JL.pure rfl (PO.move (v := str val) he_9) ?_
          refine JL.pure rfl (PO.build (ps := [(0, str key), (1, str val)]) (cs := [str key, str val]) rfl (by kernel_rfl)) ?_
          refine JL.op rfl (JO.buildSlice (ps := [(0, .agg #[str key, str val])]) (cur := #[str key, str val]) Tryz.underlying29 Tryz.sizeOf113 Tryz.zeroValue113 rfl (by kernel_rfl) (by decide) (by decide)) ?_
          rintro _ _ ⟨a_35, rfl, rfl⟩
          refine JL.op rfl (JO.append' 1 (q := 1) (news := ([(key, val)] : List Cell).flatMap encC) (n' := (o_ ++ ([(key, val)] : List Cell)).length) (cs' := (o_ ++ ([(key, val)] : List Cell)).flatMap encC) rfl Tryz.underlying29 Tryz.underlying29 Tryz.typeInfo113 rfl (by' := 32) rfl rfl rfl rfl rfl (fun w hw => Src.sees (hw.see (i := 0) rfl) (oneC _)) (by (try simp only [List.length_append, List.length_cons, List.length_nil, List.length_take, List.length_drop]); omega) (by (try simp only [List.length_append, List.length_cons, List.length_nil, List.length_take, List.length_drop]); omega) (by simp only [List.length_append, List.length_take, List.length_drop, List.length_cons, List.length_nil] <;> first | rfl | omega) (by simp only [List.flatMap_append])) ?_
          rintro _ _ ⟨a_36, c_37, rfl, rfl⟩
          refine JL.pure rfl (PO.assign (v := .slice a_36 ((o_ ++ ([(key, val)] : List Cell)).length) c_37) rfl) ?_
          refine JL.nil ?_
          refine JQ.seq ?_
          refine JC.seq ?_
          refine JC.region ?_
          refine JL.pure rfl (PO.move (v := .slice a_36 ((o_ ++ ([(key, val)] : List Cell)).length) c_37) rfl) ?_
          refine JL.pure rfl (PO.assign (v := .slice a_36 ((o_ ++ ([(key, val)] : List Cell)).length) c_37) rfl) ?_
          refine JL.nil ?_
          refine JQ.seq ?_
          refine JC.ret ?_
          refine JQ.perm (pick_perm [1] (A := [Res.row (.slice a_36 ((o_ ++ ([(key, val)] : List Cell)).length) c_37) 113 2 ((o_ ++ ([(key, val)] : List Cell)).length) ((o_ ++ ([(key, val)] : List Cell)).flatMap encC)]) (F := [Res.row (.slice a_35 1 1) 113 2 1 (([(key, val)] : List Cell).flatMap encC)]) rfl).symm ?_
          refine Done.one (.inl rfl) rfl (RV.tmp (v := .slice a_36 ((o_ ++ ([(key, val)] : List Cell)).length) c_37) rfl) (List.sublist_append_left [Res.row (.slice a_36 ((o_ ++ ([(key, val)] : List Cell)).length) c_37) 113 2 ((o_ ++ ([(key, val)] : List Cell)).length) ((o_ ++ ([(key, val)] : List Cell)).flatMap encC)] [Res.row (.slice a_35 1 1) 113 2 1 (([(key, val)] : List Cell).flatMap encC)]) ?_
          rw [List.drop_of_length_le (by omega), putL] at hR
          simp only [hd, Bool.not_true, Bool.not_false, Bool.true_and, Bool.false_and, Bool.or_true, Bool.true_or, Bool.or_false, Bool.false_or, if_true, if_false, Bool.false_eq_true, List.nil_append, List.append_nil, List.append_assoc] at hR
          exact ⟨_, _, by rw [← hR] <;> rfl, by rw [← hR] <;> rfl⟩
  · skip
    refine JL.guardOff (b := true) rfl rfl rfl (congrArg Value.bool (congrArg Bool.not h_2)) ?_
    refine JL.guardOff (b := true) rfl rfl rfl (congrArg Value.bool (congrArg Bool.not h_2)) ?_
    refine JL.guardOff (b := true) rfl rfl rfl (congrArg Value.bool (congrArg Bool.not h_2)) ?_
    refine JL.pure rfl (PO.pickT (v := .bool true) (congrArg Value.bool (congrArg Bool.not h_2)) rfl) ?_
    refine JL.nil ?_
    refine JQ.seq ?_
    refine JC.condT (congrArg Value.bool rfl) ?_
    refine JC.seq ?_
    refine JC.region ?_
    refine JL.pure rfl (PO.move (v := .slice a_1 0 0) rfl) ?_
    refine JL.pure rfl (PO.move (v := .slice a s.length c) rfl) ?_
    refine JL.op rfl (JO.append' 0 (q := s.length) (news := s.flatMap encC) (n' := s.length) (cs' := s.flatMap encC) rfl Tryz.underlying29 Tryz.underlying29 Tryz.typeInfo113 rfl (by' := 32) rfl rfl rfl rfl rfl (fun w hw => Src.sees (hw.seeOut_ hs_a (fun _ _ => List.not_mem_nil)) (oneC _)) (by (try simp only [List.length_append, List.length_cons, List.length_nil, List.length_take, List.length_drop]); omega) (by (try simp only [List.length_append, List.length_cons, List.length_nil, List.length_take, List.length_drop]); omega) (by (try simp only [List.length_take, List.length_drop]); first | rfl | omega) rfl) ?_
    rintro _ _ ⟨a_38, c_39, rfl, rfl⟩
    refine JL.pure rfl (PO.assign (v := .slice a_38 s.length c_39) rfl) ?_
    refine JL.nil ?_
    refine JQ.seq ?_
    refine JC.ret ?_
    refine JQ.thenRet ?_
    refine Done.one (.inl rfl) rfl (RV.tmp (v := .slice a_38 s.length c_39) rfl) (List.Sublist.refl _) ?_
    have he := (putKey_bad1 h_2 : putKey s key val = _)
    exact ⟨_, _, by rw [he] <;> rfl, by rw [he] <;> rfl⟩

theorem C_l02Put (a : Option Addr) (c : Nat) (l : List Str) (x : Str) (hn : l.length ≤ 100000000000) :
    Ct Tryz.prog 294 [.slice a l.length c, str x] [] (fun w_ => Sees w_ (.slice a l.length c) 1 l.length (l.map str)) (fun v A' => (v = .slice a l.length c ∧ addSpan l x = l ∧ A' = []) ∨ ∃ a' c', v = .slice a' (addSpan l x).length c' ∧ A' = [.row (.slice a' (addSpan l x).length c') 9 1 (addSpan l x).length ((addSpan l x).map str)]) := by
  refine Ct.intro Tryz.func294 rfl Tryz.ntmps294 (Nat.le_of_ble_eq_true rfl) fun w0 hpre => ?_
  have hs_a : Sees w0 _ _ _ _ := hpre
  refine JC.seq ?_
  refine JC.region ?_
  refine JL.pure rfl (PO.assign (v := .slice none 0 0) rfl) ?_
  refine JL.nil ?_
  refine JQ.seq ?_
  refine JC.seq ?_
  refine JC.region ?_
  refine JL.pure rfl (PO.assign (v := .int .i64 0) rfl) ?_
  refine JL.nil ?_
  refine JQ.seq ?_
  refine JC.seq ?_
  refine JC.block ?_
  refine JC.loop (fun k_ e_ L_ => ∃ j : Nat, (j ≤ l.length) ∧ (∀ i, i < j → geqB (l.getD i []) x = false) ∧ e_ 0 = .slice a l.length c ∧ e_ 1 = str x ∧ e_ 4 = .slice none 0 0 ∧ e_ 5 = .int .i64 ((j : Nat) : Int) ∧ L_ = [] ∧ k_ = l.length - j) _ ⟨0, by omega, (fun i hi => absurd hi (Nat.not_lt_zero i)), rfl, rfl, rfl, rfl, rfl, rfl⟩ ?_
  rintro _ e_1 _ ⟨j, hj, hN, he_2, he_3, he_4, he_5, rfl, rfl⟩
  refine JC.seq ?_
  refine JC.seq ?_
  refine JC.region ?_
  refine JL.pure rfl (PO.move (v := .int .i64 ((j : Nat) : Int)) he_5) ?_
  refine JL.pure rfl (PO.move (v := .slice a l.length c) he_2) ?_
  refine JL.pure rfl (PO.lenV Tryz.underlying23 rfl) ?_
  refine JL.pure rfl (PO.lss rfl rfl) ?_
  refine JL.pure rfl (PO.move (v := .bool (decide (((j : Nat) : Int) < ((l.length : Nat) : Int)))) rfl) ?_
  by_cases h_6 : ((j : Nat) : Int) < ((l.length : Nat) : Int)
  · skip
    have hlt : j < l.length := by omega
    refine JL.guardOn rfl rfl rfl (congrArg Value.bool (decide_eq_true h_6)) (JO.ofLO (LO.pure (PO.move (v := .slice a l.length c) he_2))) ?_
    rintro _ _ ⟨rfl, rfl⟩
    refine JL.guardOn rfl rfl rfl (congrArg Value.bool (decide_eq_true h_6)) (JO.ofLO (LO.pure (PO.move (v := .int .i64 ((j : Nat) : Int)) he_5))) ?_
    rintro _ _ ⟨rfl, rfl⟩
    obtain ⟨hr_7, hr_7b, -⟩ := sees_some hs_a (by omega)
    refine JL.guardOn rfl rfl rfl (congrArg Value.bool (decide_eq_true h_6)) (JO.ofLO (LO.pure (PO.indexAddrV (i := j) Tryz.underlying23 Tryz.sizeOf9 hr_7 hr_7b rfl rfl (by omega)))) ?_
    rintro _ _ ⟨rfl, rfl⟩
    refine JL.guardOn rfl rfl rfl (congrArg Value.bool (decide_eq_true h_6)) (JO.ofLO (LO.loadS1 (v := str (l.getD j [])) hs_a (fun _ _ => List.not_mem_nil) rfl Tryz.isAgg9 (atS (by omega)))) ?_
    rintro _ _ ⟨rfl, rfl⟩
    refine JL.guardOn rfl rfl rfl (congrArg Value.bool (decide_eq_true h_6)) (JO.ofLO (LO.pure (PO.move (v := str x) he_3))) ?_
    rintro _ _ ⟨rfl, rfl⟩
    refine JL.guardOn rfl rfl rfl (congrArg Value.bool (decide_eq_true h_6)) (JO.ofLO (LO.pure (PO.lssS rfl rfl))) ?_
    rintro _ _ ⟨rfl, rfl⟩
    refine JL.pure rfl (PO.pickT (v := .bool (Op.bytesLess (l.getD j []) x)) (congrArg Value.bool (decide_eq_true h_6)) rfl) ?_
    refine JL.nil ?_
    refine JQ.seq ?_
    rcases Bool.eq_false_or_eq_true (Op.bytesLess (l.getD j []) x) with h_8 | h_8
    · skip
      have hls := h_8
      refine JC.condT (congrArg Value.bool h_8) ?_
      refine JC.skip ?_
      refine JQ.seq ?_
      refine JC.block ?_
      refine JC.region ?_
      refine JL.pure rfl (PO.move (v := .int .i64 ((j : Nat) : Int)) he_5) ?_
      refine JL.pure rfl (PO.add (c := ((j + 1 : Nat) : Int)) rfl rfl (wr (by omega))) ?_
      refine JL.pure rfl (PO.assign (v := .int .i64 ((j + 1 : Nat) : Int)) rfl) ?_
      refine JL.nil ?_
      refine JQ.blockN ?_
      refine JQ.again (l.length - (j + 1)) (by omega) ⟨j + 1, by omega, (fun i hi => if h : i = j then h ▸ (by rw [geqB, hls]; rfl) else hN i (by omega)), he_2, he_3, he_4, rfl, rfl, rfl⟩
    · skip
      have hls := h_8
      have hge : geqB (l.getD j []) x = true := by rw [geqB, hls]; rfl
      refine JC.condF (congrArg Value.bool h_8) ?_
      refine JC.exit ?_
      refine JQ.thenExit ?_
      refine JQ.thenExit ?_
      refine JQ.blockE ?_
      refine JQ.seq ?_
      refine JC.seq ?_
      refine JC.seq ?_
      refine JC.region ?_
      refine JL.pure rfl (PO.move (v := .int .i64 ((j : Nat) : Int)) he_5) ?_
      refine JL.pure rfl (PO.move (v := .slice a l.length c) he_2) ?_
      refine JL.pure rfl (PO.lenV Tryz.underlying23 rfl) ?_
      refine JL.pure rfl (PO.lss rfl rfl) ?_
      refine JL.pure rfl (PO.move (v := .bool (decide (((j : Nat) : Int) < ((l.length : Nat) : Int)))) rfl) ?_
      refine JL.guardOn rfl rfl rfl (congrArg Value.bool (decide_eq_true h_6)) (JO.ofLO (LO.pure (PO.move (v := .slice a l.length c) he_2))) ?_
      rintro _ _ ⟨rfl, rfl⟩
      refine JL.guardOn rfl rfl rfl (congrArg Value.bool (decide_eq_true h_6)) (JO.ofLO (LO.pure (PO.move (v := .int .i64 ((j : Nat) : Int)) he_5))) ?_
      rintro _ _ ⟨rfl, rfl⟩
      refine JL.guardOn rfl rfl rfl (congrArg Value.bool (decide_eq_true h_6)) (JO.ofLO (LO.pure (PO.indexAddrV (i := j) Tryz.underlying23 Tryz.sizeOf9 hr_7 hr_7b rfl rfl (by omega)))) ?_
      rintro _ _ ⟨rfl, rfl⟩
      refine JL.guardOn rfl rfl rfl (congrArg Value.bool (decide_eq_true h_6)) (JO.ofLO (LO.loadS1 (v := str (l.getD j [])) hs_a (fun _ _ => List.not_mem_nil) rfl Tryz.isAgg9 (atS (by omega)))) ?_
      rintro _ _ ⟨rfl, rfl⟩
      refine JL.guardOn rfl rfl rfl (congrArg Value.bool (decide_eq_true h_6)) (JO.ofLO (LO.pure (PO.move (v := str x) he_3))) ?_
      rintro _ _ ⟨rfl, rfl⟩
      refine JL.guardOn rfl rfl rfl (congrArg Value.bool (decide_eq_true h_6)) (JO.ofLO (LO.pure (PO.eqlS rfl rfl))) ?_
      rintro _ _ ⟨rfl, rfl⟩
      refine JL.pure rfl (PO.pickT (v := .bool (decide ((l.getD j []) = x))) (congrArg Value.bool (decide_eq_true h_6)) rfl) ?_
      refine JL.nil ?_
      refine JQ.seq ?_
      by_cases h_9 : (l.getD j []) = x
      · skip
        have hex := h_9
        refine JC.condT (congrArg Value.bool (decide_eq_true h_9)) ?_
        refine JC.seq ?_
        refine JC.region ?_
        refine JL.pure rfl (PO.move (v := .slice a l.length c) he_2) ?_
        refine JL.pure rfl (PO.assign (v := .slice a l.length c) rfl) ?_
        refine JL.nil ?_
        refine JQ.seq ?_
        refine JC.ret ?_
        refine JQ.thenRet ?_
        refine Done.one (.inl rfl) rfl (RV.tmp (v := .slice a l.length c) rfl) (List.nil_sublist _) ?_
        exact .inl ⟨rfl, addSpan_put_same hlt hN hge hex, rfl⟩
      · skip
        have hex := h_9
        refine JC.condF (congrArg Value.bool (decide_eq_false h_9)) ?_
        refine JC.skip ?_
        refine JQ.seq ?_
        refine JC.seq ?_
        refine JC.region ?_
        refine JL.op rfl (JO.buildSlice (ps := []) (cur := #[]) Tryz.underlying23 Tryz.sizeOf9 Tryz.zeroValue9 rfl (by kernel_rfl) (by decide) (by decide)) ?_
        rintro _ _ ⟨a_10, rfl, rfl⟩
        refine JL.pure rfl (PO.move (v := .slice a l.length c) he_2) ?_
        refine JL.pure rfl (PO.move (v := .int .i64 ((j : Nat) : Int)) he_5) ?_
        obtain ⟨hf_11m, hf_11x, hf_11s, hf_11l⟩ := sees_fits hs_a
        refine JL.pure rfl (PO.sliceVh (j := j) Tryz.underlying23 Tryz.sizeOf9 hf_11s rfl rfl (by omega)) ?_
        refine JL.op rfl (JO.append' 0 (q := j) (news := (l.take j).map str) (n' := (l.take j).length) (cs' := (l.take j).map str) rfl Tryz.underlying23 Tryz.underlying23 Tryz.typeInfo9 rfl (by' := 16) rfl rfl rfl rfl rfl (fun w hw => Src.sees (hiS (hw.seeOut_ hs_a (fun _ _ => List.not_mem_nil)) j (by omega)) (oneS _)) (by (try simp only [List.length_append, List.length_cons, List.length_nil, List.length_take, List.length_drop]); omega) (by (try simp only [List.length_append, List.length_cons, List.length_nil, List.length_take, List.length_drop]); omega) (by (try simp only [List.length_take, List.length_drop]); first | rfl | omega) rfl) ?_
        rintro _ _ ⟨a_12, c_13, rfl, rfl⟩
        refine JL.pure rfl (PO.move (v := str x) he_3) ?_
        refine JL.op rfl (JO.buildSlice (ps := [(0, str x)]) (cur := #[str x]) Tryz.underlying23 Tryz.sizeOf9 Tryz.zeroValue9 rfl (by kernel_rfl) (by decide) (by decide)) ?_
        rintro _ _ ⟨a_14, rfl, rfl⟩
        refine JL.op rfl (JO.append' 1 (q := 1) (news := ([x] : List Str).map str) (n' := (l.take j ++ ([x] : List Str)).length) (cs' := (l.take j ++ ([x] : List Str)).map str) rfl Tryz.underlying23 Tryz.underlying23 Tryz.typeInfo9 rfl (by' := 16) rfl rfl rfl rfl rfl (fun w hw => Src.sees (hw.see (i := 0) rfl) (oneS _)) (by (try simp only [List.length_append, List.length_cons, List.length_nil, List.length_take, List.length_drop]); omega) (by (try simp only [List.length_append, List.length_cons, List.length_nil, List.length_take, List.length_drop]); omega) (by simp only [List.length_append, List.length_take, List.length_drop, List.length_cons, List.length_nil] <;> first | rfl | omega) (by simp only [List.map_append])) ?_
        rintro _ _ ⟨a_15, c_16, rfl, rfl⟩
        refine JL.pure rfl (PO.assign (v := .slice a_15 ((l.take j ++ ([x] : List Str)).length) c_16) rfl) ?_
        refine JL.nil ?_
        refine JQ.seq ?_
        refine JC.seq ?_
        refine JC.region ?_
        refine JL.pure rfl (PO.move (v := .slice a_15 ((l.take j ++ ([x] : List Str)).length) c_16) rfl) ?_
        refine JL.pure rfl (PO.move (v := .slice a l.length c) he_2) ?_
        refine JL.pure rfl (PO.move (v := .int .i64 ((j : Nat) : Int)) he_5) ?_
        refine JL.pure rfl (PO.sliceVl (i := j) Tryz.underlying23 Tryz.sizeOf9 hf_11s rfl rfl (by omega)) ?_
        refine JL.op rfl (JO.append' 1 (q := (l.length - j)) (news := ((l.drop j).take (l.length - j)).map str) (n' := ((l.take j ++ ([x] : List Str)) ++ (l.drop j).take (l.length - j)).length) (cs' := ((l.take j ++ ([x] : List Str)) ++ (l.drop j).take (l.length - j)).map str) rfl Tryz.underlying23 Tryz.underlying23 Tryz.typeInfo9 rfl (by' := 16) rfl rfl rfl rfl rfl (fun w hw => Src.sees (subS (hw.seeOut_ hs_a (fun _ _ => List.not_mem_nil)) j l.length (by omega) (by omega)) (oneS _)) (by (try simp only [List.length_append, List.length_cons, List.length_nil, List.length_take, List.length_drop]); omega) (by (try simp only [List.length_append, List.length_cons, List.length_nil, List.length_take, List.length_drop]); omega) (by simp only [List.length_append, List.length_take, List.length_drop, List.length_cons, List.length_nil] <;> first | rfl | omega) (by simp only [List.map_append])) ?_
        rintro _ _ ⟨a_17, c_18, rfl, rfl⟩
        refine JL.pure rfl (PO.assign (v := .slice a_17 (((l.take j ++ ([x] : List Str)) ++ (l.drop j).take (l.length - j)).length) c_18) rfl) ?_
        refine JL.nil ?_
        refine JQ.seq ?_
        refine JC.ret ?_
        refine JQ.perm (pick_perm [1] (A := [Res.row (.slice a_17 (((l.take j ++ ([x] : List Str)) ++ (l.drop j).take (l.length - j)).length) c_18) 9 1 (((l.take j ++ ([x] : List Str)) ++ (l.drop j).take (l.length - j)).length) (((l.take j ++ ([x] : List Str)) ++ (l.drop j).take (l.length - j)).map str)]) (F := [Res.row (.slice a_14 1 1) 9 1 1 (([x] : List Str).map str)]) rfl).symm ?_
        refine Done.one (.inl rfl) rfl (RV.tmp (v := .slice a_17 (((l.take j ++ ([x] : List Str)) ++ (l.drop j).take (l.length - j)).length) c_18) rfl) (List.sublist_append_left [Res.row (.slice a_17 (((l.take j ++ ([x] : List Str)) ++ (l.drop j).take (l.length - j)).length) c_18) 9 1 (((l.take j ++ ([x] : List Str)) ++ (l.drop j).take (l.length - j)).length) (((l.take j ++ ([x] : List Str)) ++ (l.drop j).take (l.length - j)).map str)] [Res.row (.slice a_14 1 1) 9 1 1 (([x] : List Str).map str)]) ?_
        have he := addSpan_put_ins hlt hN hge hex
        exact .inr ⟨_, _, by rw [← he] <;> rfl, by rw [← he] <;> rfl⟩
  · skip
    refine JL.guardOff (b := false) rfl rfl rfl (congrArg Value.bool (decide_eq_false h_6)) ?_
    refine JL.guardOff (b := false) rfl rfl rfl (congrArg Value.bool (decide_eq_false h_6)) ?_
    refine JL.guardOff (b := false) rfl rfl rfl (congrArg Value.bool (decide_eq_false h_6)) ?_
    refine JL.guardOff (b := false) rfl rfl rfl (congrArg Value.bool (decide_eq_false h_6)) ?_
    refine JL.guardOff (b := false) rfl rfl rfl (congrArg Value.bool (decide_eq_false h_6)) ?_
    refine JL.guardOff (b := false) rfl rfl rfl (congrArg Value.bool (decide_eq_false h_6)) ?_
    refine JL.pure rfl (PO.pickF (v := .bool false) (congrArg Value.bool (decide_eq_false h_6)) rfl) ?_
    refine JL.nil ?_
    refine JQ.seq ?_
    refine JC.condF (congrArg Value.bool rfl) ?_
    refine JC.exit ?_
    refine JQ.thenExit ?_
    refine JQ.thenExit ?_
    refine JQ.blockE ?_
    refine JQ.seq ?_
    refine JC.seq ?_
    refine JC.seq ?_
    refine JC.region ?_
    refine JL.pure rfl (PO.move (v := .int .i64 ((j : Nat) : Int)) he_5) ?_
    refine JL.pure rfl (PO.move (v := .slice a l.length c) he_2) ?_
    refine JL.pure rfl (PO.lenV Tryz.underlying23 rfl) ?_
    refine JL.pure rfl (PO.lss rfl rfl) ?_
    refine JL.pure rfl (PO.move (v := .bool (decide (((j : Nat) : Int) < ((l.length : Nat) : Int)))) rfl) ?_
    refine JL.guardOff (b := false) rfl rfl rfl (congrArg Value.bool (decide_eq_false h_6)) ?_
    refine JL.guardOff (b := false) rfl rfl rfl (congrArg Value.bool (decide_eq_false h_6)) ?_
    refine JL.guardOff (b := false) rfl rfl rfl (congrArg Value.bool (decide_eq_false h_6)) ?_
    refine JL.guardOff (b := false) rfl rfl rfl (congrArg Value.bool (decide_eq_false h_6)) ?_
    refine JL.guardOff (b := false) rfl rfl rfl (congrArg Value.bool (decide_eq_false h_6)) ?_
    refine JL.guardOff (b := false) rfl rfl rfl (congrArg Value.bool (decide_eq_false h_6)) ?_
    refine JL.pure rfl (PO.pickF (v := .bool false) (congrArg Value.bool (decide_eq_false h_6)) rfl) ?_
    refine JL.nil ?_
    refine JQ.seq ?_
    refine JC.condF (congrArg Value.bool rfl) ?_
    refine JC.skip ?_
    refine JQ.seq ?_
    refine JC.seq ?_
    refine JC.region ?_
    refine JL.op rfl (JO.buildSlice (ps := []) (cur := #[]) Tryz.underlying23 Tryz.sizeOf9 Tryz.zeroValue9 rfl (by kernel_rfl) (by decide) (by decide)) ?_
    rintro _ _ ⟨a_19, rfl, rfl⟩
    refine JL.pure rfl (PO.move (v := .slice a l.length c) he_2) ?_
    refine JL.pure rfl (PO.move (v := .int .i64 ((j : Nat) : Int)) he_5) ?_
    obtain ⟨hf_20m, hf_20x, hf_20s, hf_20l⟩ := sees_fits hs_a
    refine JL.pure rfl (PO.sliceVh (j := j) Tryz.underlying23 Tryz.sizeOf9 hf_20s rfl rfl (by omega)) ?_
    refine JL.op rfl (JO.append' 0 (q := j) (news := (l.take j).map str) (n' := (l.take j).length) (cs' := (l.take j).map str) rfl Tryz.underlying23 Tryz.underlying23 Tryz.typeInfo9 rfl (by' := 16) rfl rfl rfl rfl rfl (fun w hw => Src.sees (hiS (hw.seeOut_ hs_a (fun _ _ => List.not_mem_nil)) j (by omega)) (oneS _)) (by (try simp only [List.length_append, List.length_cons, List.length_nil, List.length_take, List.length_drop]); omega) (by (try simp only [List.length_append, List.length_cons, List.length_nil, List.length_take, List.length_drop]); omega) (by (try simp only [List.length_take, List.length_drop]); first | rfl | omega) rfl) ?_
    rintro _ _ ⟨a_21, c_22, rfl, rfl⟩
    refine JL.pure rfl (PO.move (v := str x) he_3) ?_
    refine JL.op rfl (JO.buildSlice (ps := [(0, str x)]) (cur := #[str x]) Tryz.underlying23 Tryz.sizeOf9 Tryz.zeroValue9 rfl (by kernel_rfl) (by decide) (by decide)) ?_
    rintro _ _ ⟨a_23, rfl, rfl⟩
    refine JL.op rfl (JO.append' 1 (q := 1) (news := ([x] : List Str).map str) (n' := (l.take j ++ ([x] : List Str)).length) (cs' := (l.take j ++ ([x] : List Str)).map str) rfl Tryz.underlying23 Tryz.underlying23 Tryz.typeInfo9 rfl (by' := 16) rfl rfl rfl rfl rfl (fun w hw => Src.sees (hw.see (i := 0) rfl) (oneS _)) (by (try simp only [List.length_append, List.length_cons, List.length_nil, List.length_take, List.length_drop]); omega) (by (try simp only [List.length_append, List.length_cons, List.length_nil, List.length_take, List.length_drop]); omega) (by simp only [List.length_append, List.length_take, List.length_drop, List.length_cons, List.length_nil] <;> first | rfl | omega) (by simp only [List.map_append])) ?_
    rintro _ _ ⟨a_24, c_25, rfl, rfl⟩
    refine JL.pure rfl (PO.assign (v := .slice a_24 ((l.take j ++ ([x] : List Str)).length) c_25) rfl) ?_
    refine JL.nil ?_
    refine JQ.seq ?_
    refine JC.seq ?_
    refine JC.region ?_
    refine JL.pure rfl (PO.move (v := .slice a_24 ((l.take j ++ ([x] : List Str)).length) c_25) rfl) ?_
    refine JL.pure rfl (PO.move (v := .slice a l.length c) he_2) ?_
    refine JL.pure rfl (PO.move (v := .int .i64 ((j : Nat) : Int)) he_5) ?_
    refine JL.pure rfl (PO.sliceVl (i := j) Tryz.underlying23 Tryz.sizeOf9 hf_20s rfl rfl (by omega)) ?_
    refine JL.op rfl (JO.append' 1 (q := (l.length - j)) (news := ((l.drop j).take (l.length - j)).map str) (n' := ((l.take j ++ ([x] : List Str)) ++ (l.drop j).take (l.length - j)).length) (cs' := ((l.take j ++ ([x] : List Str)) ++ (l.drop j).take (l.length - j)).map str) rfl Tryz.underlying23 Tryz.underlying23 Tryz.typeInfo9 rfl (by' := 16) rfl rfl rfl rfl rfl (fun w hw => Src.sees (subS (hw.seeOut_ hs_a (fun _ _ => List.not_mem_nil)) j l.length (by omega) (by omega)) (oneS _)) (by (try simp only [List.length_append, List.length_cons, List.length_nil, List.length_take, List.length_drop]); omega) (by (try simp only [List.length_append, List.length_cons, List.length_nil, List.length_take, List.length_drop]); omega) (by simp only [List.length_append, List.length_take, List.length_drop, List.length_cons, List.length_nil] <;> first | rfl | omega) (by simp only [List.map_append])) ?_
    rintro _ _ ⟨a_26, c_27, rfl, rfl⟩
    refine JL.pure rfl (PO.assign (v := .slice a_26 (((l.take j ++ ([x] : List Str)) ++ (l.drop j).take (l.length - j)).length) c_27) rfl) ?_
    refine JL.nil ?_
    refine JQ.seq ?_
    refine JC.ret ?_
    refine JQ.perm (pick_perm [1] (A := [Res.row (.slice a_26 (((l.take j ++ ([x] : List Str)) ++ (l.drop j).take (l.length - j)).length) c_27) 9 1 (((l.take j ++ ([x] : List Str)) ++ (l.drop j).take (l.length - j)).length) (((l.take j ++ ([x] : List Str)) ++ (l.drop j).take (l.length - j)).map str)]) (F := [Res.row (.slice a_23 1 1) 9 1 1 (([x] : List Str).map str)]) rfl).symm ?_
    refine Done.one (.inl rfl) rfl (RV.tmp (v := .slice a_26 (((l.take j ++ ([x] : List Str)) ++ (l.drop j).take (l.length - j)).length) c_27) rfl) (List.sublist_append_left [Res.row (.slice a_26 (((l.take j ++ ([x] : List Str)) ++ (l.drop j).take (l.length - j)).length) c_27) 9 1 (((l.take j ++ ([x] : List Str)) ++ (l.drop j).take (l.length - j)).length) (((l.take j ++ ([x] : List Str)) ++ (l.drop j).take (l.length - j)).map str)] [Res.row (.slice a_23 1 1) 9 1 1 (([x] : List Str).map str)]) ?_
    have he := addSpan_put_end (by omega) hj hN
    exact .inr ⟨_, _, by rw [← he] <;> rfl, by rw [← he] <;> rfl⟩

theorem C_sAddSpan (a : Option Addr) (c : Nat) (l : List Str) (x : Str) (hn : l.length ≤ 10000000000) :
    Ct Tryz.prog 279 [.slice a l.length c, str x] [] (fun w_ => Sees w_ (.slice a l.length c) 1 l.length (l.map str)) (fun v A' => ∃ a' c', v = .slice a' (addSpan l x).length c' ∧ A' = [.row (.slice a' (addSpan l x).length c') 9 1 (addSpan l x).length ((addSpan l x).map str)]) := by
  refine Ct.intro Tryz.func279 rfl Tryz.ntmps279 (Nat.le_of_ble_eq_true rfl) fun w0 hpre => ?_
  have hs_a : Sees w0 _ _ _ _ := hpre
  refine JC.seq ?_
  refine JC.region ?_
  refine JL.pure rfl (PO.assign (v := .slice none 0 0) rfl) ?_
  refine JL.nil ?_
  refine JQ.seq ?_
  refine JC.seq ?_
  refine JC.region ?_
  refine JL.op rfl (JO.buildSlice (ps := []) (cur := #[]) Tryz.underlying23 Tryz.sizeOf9 Tryz.zeroValue9 rfl (by kernel_rfl) (by decide) (by decide)) ?_
  rintro _ _ ⟨a_1, rfl, rfl⟩
  refine JL.pure rfl (PO.move (v := .slice a l.length c) rfl) ?_
  refine JL.pure rfl (PO.move (v := str x) rfl) ?_
  refine JL.op rfl (JO.call [] Tryz.call294 rfl (C_l02Put a c l x (by omega)) rfl (fun w hw => hw.seeOut_ hs_a (fun _ _ => List.not_mem_nil))) ?_
  rintro _ _ ⟨_, ⟨rfl, hsame, rfl⟩ | ⟨a_2, c_3, rfl, rfl⟩, rfl⟩
  · skip
    have hal3 := addSpan_len l x
    refine JL.op rfl (JO.append' 0 (q := l.length) (news := l.map str) (n' := l.length) (cs' := l.map str) rfl Tryz.underlying23 Tryz.underlying23 Tryz.typeInfo9 rfl (by' := 16) rfl rfl rfl rfl rfl (fun w hw => Src.sees (hw.seeOut_ hs_a (fun _ _ => List.not_mem_nil)) (oneS _)) (by (try simp only [List.length_append, List.length_cons, List.length_nil, List.length_take, List.length_drop]); omega) (by (try simp only [List.length_append, List.length_cons, List.length_nil, List.length_take, List.length_drop]); omega) (by (try simp only [List.length_take, List.length_drop]); first | rfl | omega) rfl) ?_
    rintro _ _ ⟨a_4, c_5, rfl, rfl⟩
    refine JL.pure rfl (PO.assign (v := .slice a_4 l.length c_5) rfl) ?_
    refine JL.nil ?_
    refine JQ.seq ?_
    refine JC.ret ?_
    refine Done.one (.inl rfl) rfl (RV.tmp (v := .slice a_4 l.length c_5) rfl) (List.Sublist.refl _) ?_
    exact ⟨_, _, by rw [hsame] <;> rfl, by rw [hsame] <;> rfl⟩
  · skip
    have hal3 := addSpan_len l x
    refine JL.op rfl (JO.append' 1 (q := ((addSpan l x).length)) (news := (addSpan l x).map str) (n' := (addSpan l x).length) (cs' := (addSpan l x).map str) rfl Tryz.underlying23 Tryz.underlying23 Tryz.typeInfo9 rfl (by' := 16) rfl rfl rfl rfl rfl (fun w hw => Src.sees (hw.see (i := 0) rfl) (oneS _)) (by (try simp only [List.length_append, List.length_cons, List.length_nil, List.length_take, List.length_drop]); omega) (by (try simp only [List.length_append, List.length_cons, List.length_nil, List.length_take, List.length_drop]); omega) (by (try simp only [List.length_take, List.length_drop]); first | rfl | omega) rfl) ?_
    rintro _ _ ⟨a_6, c_7, rfl, rfl⟩
    refine JL.pure rfl (PO.assign (v := .slice a_6 ((addSpan l x).length) c_7) rfl) ?_
    refine JL.nil ?_
    refine JQ.seq ?_
    refine JC.ret ?_
    refine JQ.perm (pick_perm [1] (A := [Res.row (.slice a_6 ((addSpan l x).length) c_7) 9 1 ((addSpan l x).length) ((addSpan l x).map str)]) (F := [Res.row (.slice a_2 ((addSpan l x).length) c_3) 9 1 ((addSpan l x).length) ((addSpan l x).map str)]) rfl).symm ?_
    refine Done.one (.inl rfl) rfl (RV.tmp (v := .slice a_6 ((addSpan l x).length) c_7) rfl) (List.sublist_append_left [Res.row (.slice a_6 ((addSpan l x).length) c_7) 9 1 ((addSpan l x).length) ((addSpan l x).map str)] [Res.row (.slice a_2 ((addSpan l x).length) c_3) 9 1 ((addSpan l x).length) ((addSpan l x).map str)]) ?_
    exact ⟨_, _, rfl, rfl⟩

theorem C_figure (d : Nat) (hd : d < 10) :
    Ct Tryz.prog 285 [.int .i64 ((d : Nat) : Int)] [] (fun _ => True) (fun v A' => v = .int .u8 ((48 + d : Nat) : Int) ∧ A' = []) := by
  refine Ct.intro Tryz.func285 rfl Tryz.ntmps285 (Nat.le_of_ble_eq_true rfl) fun w0 hpre => ?_
  refine JC.seq ?_
  refine JC.region ?_
  refine JL.pure rfl (PO.assign (v := .int .u8 0) rfl) ?_
  refine JL.nil ?_
  refine JQ.seq ?_
  refine JC.seq ?_
  refine JC.seq ?_
  refine JC.region ?_
  refine JL.pure rfl (PO.move (v := .int .i64 ((d : Nat) : Int)) rfl) ?_
  refine JL.pure rfl (PO.lss rfl rfl) ?_
  refine JL.nil ?_
  refine JQ.seq ?_
  by_cases h_1 : ((d : Nat) : Int) < 10
  · skip
    refine JC.condT (congrArg Value.bool (decide_eq_true h_1)) ?_
    refine JC.seq ?_
    refine JC.region ?_
    refine JL.pure rfl (PO.move (v := .int .i64 ((d : Nat) : Int)) rfl) ?_
    refine JL.pure rfl (PO.add (c := ((48 + d : Nat) : Int)) rfl rfl (wr (by omega))) ?_
    refine JL.pure rfl (PO.convI (c := ((48 + d : Nat) : Int)) Tryz.underlying3 Tryz.underlying5 rfl (wr8 (by omega))) ?_
    refine JL.pure rfl (PO.assign (v := .int .u8 ((48 + d : Nat) : Int)) rfl) ?_
    refine JL.nil ?_
    refine JQ.seq ?_
    refine JC.ret ?_
    refine JQ.thenRet ?_
    refine Done.one (.inl rfl) rfl (RV.tmp (v := .int .u8 ((48 + d : Nat) : Int)) rfl) (List.nil_sublist _) ?_
    exact ⟨rfl, rfl⟩
  · skip
    exfalso; omega

theorem C_sDecN (k : Nat) (h1 : k ≤ 1000000000000000000) :
    Ct Tryz.prog 276 [.int .i64 ((k : Nat) : Int)] [] (fun _ => True) (fun v A' => v = str (dec ((k : Nat) : Int)) ∧ A' = []) := by
  refine Ct.intro Tryz.func276 rfl Tryz.ntmps276 (Nat.le_of_ble_eq_true rfl) fun w0 hpre => ?_
  refine JC.seq ?_
  refine JC.region ?_
  refine JL.pure rfl (PO.assign (v := str []) rfl) ?_
  refine JL.nil ?_
  refine JQ.seq ?_
  refine JC.seq ?_
  refine JC.seq ?_
  refine JC.region ?_
  refine JL.pure rfl (PO.move (v := .int .i64 ((k : Nat) : Int)) rfl) ?_
  refine JL.pure rfl (PO.eqlI rfl rfl) ?_
  refine JL.nil ?_
  refine JQ.seq ?_
  by_cases h_1 : ((k : Nat) : Int) = 0
  · skip
    refine JC.condT (congrArg Value.bool (decide_eq_true h_1)) ?_
    refine JC.seq ?_
    refine JC.region ?_
    refine JL.pure rfl (PO.assign (v := str [48]) rfl) ?_
    refine JL.nil ?_
    refine JQ.seq ?_
    refine JC.ret ?_
    refine JQ.thenRet ?_
    refine Done.one (.inl rfl) rfl (RV.tmp (v := str [48]) rfl) (List.nil_sublist _) ?_
    refine ⟨?_, rfl⟩
    rw [show ((k : Nat) : Int) = 0 by omega, dec_zero]
  · skip
    refine JC.condF (congrArg Value.bool (decide_eq_false h_1)) ?_
    refine JC.skip ?_
    refine JQ.seq ?_
    refine JC.seq ?_
    refine JC.region ?_
    refine JL.pure rfl (PO.move (v := .int .i64 ((k : Nat) : Int)) rfl) ?_
    refine JL.pure rfl (PO.lss rfl rfl) ?_
    refine JL.pure rfl (PO.assign (v := .bool (decide (((k : Nat) : Int) < 0))) rfl) ?_
    refine JL.nil ?_
    refine JQ.seq ?_
    refine JC.seq ?_
    refine JC.region ?_
    refine JL.pure rfl (PO.assign (v := str []) rfl) ?_
    refine JL.nil ?_
    refine JQ.seq ?_
    refine JC.seq ?_
    refine JC.block ?_
    refine JC.loop (fun k_ e_ L_ => ∃ k1 : Nat, ∃ o_ : Str, (k1 ≤ k) ∧ (o_.length + k1 ≤ k) ∧ (mtAcc k1 o_ = mtAcc k []) ∧ e_ 0 = .int .i64 ((k1 : Nat) : Int) ∧ e_ 2 = str [] ∧ e_ 3 = .bool (decide (((k : Nat) : Int) < 0)) ∧ e_ 4 = str o_ ∧ L_ = [] ∧ k_ = k1 + 1) _ ⟨k, [], by omega, (by simp), rfl, rfl, rfl, rfl, rfl, rfl, rfl⟩ ?_
    rintro _ e_2 _ ⟨k1, o_, hk, hl, hR, he_3, he_4, he_5, he_6, rfl, rfl⟩
    refine JC.seq ?_
    refine JC.seq ?_
    refine JC.region ?_
    refine JL.pure rfl (PO.move (v := .int .i64 ((k1 : Nat) : Int)) he_3) ?_
    refine JL.pure rfl (PO.neqI rfl rfl) ?_
    refine JL.nil ?_
    refine JQ.seq ?_
    by_cases h_7 : ((k1 : Nat) : Int) = 0
    · skip
      refine JC.condF (congrArg Value.bool (congrArg Bool.not (decide_eq_true h_7))) ?_
      refine JC.exit ?_
      refine JQ.thenExit ?_
      refine JQ.thenExit ?_
      refine JQ.blockE ?_
      refine JQ.seq ?_
      refine JC.seq ?_
      refine JC.seq ?_
      refine JC.region ?_
      refine JL.pure rfl (PO.move (v := .bool (decide (((k : Nat) : Int) < 0))) he_5) ?_
      refine JL.nil ?_
      refine JQ.seq ?_
      by_cases h_8 : ((k : Nat) : Int) < 0
      · skip
        exfalso; omega
      · skip
        refine JC.condF (congrArg Value.bool (decide_eq_false h_8)) ?_
        refine JC.skip ?_
        refine JQ.seq ?_
        refine JC.seq ?_
        refine JC.region ?_
        refine JL.pure rfl (PO.move (v := str o_) he_6) ?_
        refine JL.pure rfl (PO.assign (v := str o_) rfl) ?_
        refine JL.nil ?_
        refine JQ.seq ?_
        refine JC.ret ?_
        refine Done.one (.inl rfl) rfl (RV.tmp (v := str o_) rfl) (List.nil_sublist _) ?_
        refine ⟨?_, rfl⟩
        rw [dec_nat (by omega), ← hR, mtAcc_zero (by omega)]
    · skip
      refine JC.condT (congrArg Value.bool (congrArg Bool.not (decide_eq_false h_7))) ?_
      refine JC.skip ?_
      refine JQ.seq ?_
      refine JC.block ?_
      refine JC.seq ?_
      refine JC.region ?_
      refine JL.pure rfl (PO.move (v := .int .i64 ((k1 : Nat) : Int)) he_3) ?_
      refine JL.pure rfl (PO.remN (c := ((k1 % 10 : Nat) : Int)) rfl rfl (by omega) (by omega) (by omega)) ?_
      refine JL.pure rfl (PO.assign (v := .int .i64 ((k1 % 10 : Nat) : Int)) rfl) ?_
      refine JL.nil ?_
      refine JQ.seq ?_
      refine JC.seq ?_
      refine JC.seq ?_
      refine JC.region ?_
      refine JL.pure rfl (PO.move (v := .int .i64 ((k1 % 10 : Nat) : Int)) rfl) ?_
      refine JL.pure rfl (PO.lss rfl rfl) ?_
      refine JL.nil ?_
      refine JQ.seq ?_
      by_cases h_9 : ((k1 % 10 : Nat) : Int) < 0
      · skip
        exfalso; omega
      · skip
        refine JC.condF (congrArg Value.bool (decide_eq_false h_9)) ?_
        refine JC.skip ?_
        refine JQ.seq ?_
        refine JC.seq ?_
        refine JC.region ?_
        refine JL.pure rfl (PO.move (v := .int .i64 ((k1 % 10 : Nat) : Int)) rfl) ?_
        refine JL.op rfl (JO.call [] Tryz.call285 rfl (C_figure (k1 % 10) (by omega)) rfl (fun _ _ => trivial)) ?_
        rintro _ _ ⟨_, ⟨rfl, rfl⟩, rfl⟩
        refine JL.op rfl (JO.buildSlice (ps := [(0, .int .u8 ((48 + (k1 % 10) : Nat) : Int))]) (cur := #[.int .u8 ((48 + (k1 % 10) : Nat) : Int)]) Tryz.underlying44 Tryz.sizeOf5 Tryz.zeroValue5 rfl (by kernel_rfl) (by decide) (by decide)) ?_
        rintro _ _ ⟨a_10, rfl, rfl⟩
        refine JL.ld rfl (LO.toStr 0 [UInt8.ofNat (48 + (k1 % 10))] rfl Tryz.underlying44 Tryz.underlying5 Tryz.underlying9 rfl (by rw [List.map_cons, List.map_nil, encB_of _ (by omega)])) ?_
        refine JL.pure rfl (PO.move (v := str o_) he_6) ?_
        refine JL.pure rfl (PO.addS rfl rfl (by (try simp only [List.length_append, List.length_cons, List.length_nil, List.length_drop, List.length_take]); omega)) ?_
        refine JL.pure rfl (PO.assign (v := str ([UInt8.ofNat (48 + (k1 % 10))] ++ o_)) rfl) ?_
        refine JL.nil ?_
        refine JQ.seq ?_
        refine JC.region ?_
        refine JL.pure rfl (PO.move (v := .int .i64 ((k1 : Nat) : Int)) he_3) ?_
        refine JL.pure rfl (PO.quoN (c := ((k1 / 10 : Nat) : Int)) rfl rfl (by omega) (by omega) (by omega) (wr (by omega))) ?_
        refine JL.pure rfl (PO.assign (v := .int .i64 ((k1 / 10 : Nat) : Int)) rfl) ?_
        refine JL.nil ?_
        refine JQ.blockN ?_
        refine JQ.pick [] (A := []) rfl ?_
        refine JQ.again (k1 / 10 + 1) (by omega) ⟨(k1 / 10), [UInt8.ofNat (48 + (k1 % 10))] ++ o_, by omega, (by simp only [List.length_append, List.length_cons, List.length_nil]; omega), (by rw [mtAcc_step (by omega)]; exact hR), rfl, he_4, he_5, rfl, rfl, rfl⟩

theorem C_sDec (n : Int) (h0 : 0 ≤ n) (h1 : n ≤ 1000000000000000000) : Ct Tryz.prog 276 [.int .i64 n] [] (fun _ => True) (fun v A' => v = str (dec n) ∧ A' = []) := by
  have := C_sDecN n.toNat (by omega)
  rw [Int.toNat_of_nonneg h0] at this
  exact this

end Go.Proofs.YtenfajgpdhgknaaGreatDoor

set_option linter.unusedSimpArgs false
set_option linter.unusedVariables false
set_option linter.unnecessarySimpa false
namespace Go.Proofs.YtenfajgpdhgknaaGreatDoor
open Go Go.RowKit
attribute [local irreducible] JL JC JQ JO LO PO JA JX Ct

theorem C_sReadDec (t : Str) (ht : t.length ≤ 281474976710656) :
    Ct Tryz.prog 275 [str t] [] (fun _ => True) (fun v A' => v = .tuple #[.int .i64 (readDec t).1, .bool (readDec t).2] ∧ A' = []) := by
  refine Ct.intro Tryz.func275 rfl Tryz.ntmps275 (Nat.le_of_ble_eq_true rfl) fun w0 hpre => ?_
  refine JC.seq ?_
  refine JC.region ?_
  refine JL.pure rfl (PO.assign (v := .int .i64 0) rfl) ?_
  refine JL.pure rfl (PO.assign (v := .bool false) rfl) ?_
  refine JL.nil ?_
  refine JQ.seq ?_
  refine JC.seq ?_
  refine JC.seq ?_
  refine JC.region ?_
  refine JL.pure rfl (PO.move (v := str t) rfl) ?_
  refine JL.pure rfl (PO.lenS Tryz.underlying9 rfl) ?_
  refine JL.pure rfl (PO.gtr rfl rfl) ?_
  refine JL.nil ?_
  refine JQ.seq ?_
  by_cases h_1 : 10 < (t.length : Int)
  · skip
    refine JC.condT (congrArg Value.bool (decide_eq_true h_1)) ?_
    refine JC.seq ?_
    refine JC.region ?_
    refine JL.pure rfl (PO.assign (v := .int .i64 0) rfl) ?_
    refine JL.pure rfl (PO.assign (v := .bool false) rfl) ?_
    refine JL.nil ?_
    refine JQ.seq ?_
    refine JC.ret ?_
    refine JQ.thenRet ?_
    refine Done.two (.inl rfl) rfl (RV.tmp (v := .int .i64 0) rfl) (RV.tmp (v := .bool false) rfl) (List.nil_sublist _) ?_
    refine ⟨?_, rfl⟩
    rw [readDec_long (by omega)]
  · skip
    refine JC.condF (congrArg Value.bool (decide_eq_false h_1)) ?_
    refine JC.skip ?_
    refine JQ.seq ?_
    refine JC.seq ?_
    refine JC.region ?_
    refine JL.pure rfl (PO.assign (v := .int .i64 0) rfl) ?_
    refine JL.nil ?_
    refine JQ.seq ?_
    refine JC.seq ?_
    refine JC.seq ?_
    refine JC.region ?_
    refine JL.pure rfl (PO.assign (v := .int .i64 0) rfl) ?_
    refine JL.nil ?_
    refine JQ.seq ?_
    refine JC.block ?_
    refine JC.loop (fun k_ e_ L_ => ∃ j : Nat, ∃ n1 : Int, (j ≤ t.length) ∧ (0 ≤ n1) ∧ (n1 < ((10 ^ j : Nat) : Int)) ∧ (figs n1 (t.drop j) = figs 0 t) ∧ e_ 0 = str t ∧ e_ 4 = .int .i64 n1 ∧ e_ 5 = .int .i64 ((j : Nat) : Int) ∧ L_ = [] ∧ k_ = t.length - j) _ ⟨0, 0, by omega, by omega, (by decide), rfl, rfl, rfl, rfl, rfl, rfl⟩ ?_
    rintro _ e_2 _ ⟨j, n1, hj, h0, hb, hR, he_3, he_4, he_5, rfl, rfl⟩
    refine JC.seq ?_
    refine JC.seq ?_
    refine JC.region ?_
    refine JL.pure rfl (PO.move (v := .int .i64 ((j : Nat) : Int)) he_5) ?_
    refine JL.pure rfl (PO.move (v := str t) he_3) ?_
    refine JL.pure rfl (PO.lenS Tryz.underlying9 rfl) ?_
    refine JL.pure rfl (PO.lss rfl rfl) ?_
    refine JL.nil ?_
    refine JQ.seq ?_
    by_cases h_6 : ((j : Nat) : Int) < (t.length : Int)
    · skip
      have hlt : j < t.length := by omega
      have hpj : 10 ^ j ≤ 1000000000 := Nat.le_trans (Nat.pow_le_pow_right (by omega) (show j ≤ 9 by omega)) (by decide)
      refine JC.condT (congrArg Value.bool (decide_eq_true h_6)) ?_
      refine JC.skip ?_
      refine JQ.seq ?_
      refine JC.seq ?_
      refine JC.block ?_
      refine JC.seq ?_
      refine JC.seq ?_
      refine JC.region ?_
      refine JL.pure rfl (PO.move (v := str t) he_3) ?_
      refine JL.pure rfl (PO.move (v := .int .i64 ((j : Nat) : Int)) he_5) ?_
      refine JL.pure rfl (PO.indexS (i := j) (c := t.getD j 0) Tryz.underlying9 rfl rfl (getD_some (by omega))) ?_
      have hu_7 := UInt8.toNat_lt (t.getD j 0)
      refine JL.pure rfl (PO.lss rfl rfl) ?_
      refine JL.pure rfl (PO.move (v := .bool (decide (((t.getD j 0).toNat : Int) < 48))) rfl) ?_
      by_cases h_8 : ((t.getD j 0).toNat : Int) < 48
      · skip
        refine JL.guardOff (b := true) rfl rfl rfl (congrArg Value.bool (decide_eq_true h_8)) ?_
        refine JL.guardOff (b := true) rfl rfl rfl (congrArg Value.bool (decide_eq_true h_8)) ?_
        refine JL.guardOff (b := true) rfl rfl rfl (congrArg Value.bool (decide_eq_true h_8)) ?_
        refine JL.guardOff (b := true) rfl rfl rfl (congrArg Value.bool (decide_eq_true h_8)) ?_
        refine JL.pure rfl (PO.pickT (v := .bool true) (congrArg Value.bool (decide_eq_true h_8)) rfl) ?_
        refine JL.nil ?_
        refine JQ.seq ?_
        refine JC.condT (congrArg Value.bool rfl) ?_
        refine JC.seq ?_
        refine JC.region ?_
        refine JL.pure rfl (PO.assign (v := .int .i64 0) rfl) ?_
        refine JL.pure rfl (PO.assign (v := .bool false) rfl) ?_
        refine JL.nil ?_
        refine JQ.seq ?_
        refine JC.ret ?_
        refine JQ.thenRet ?_
        refine JQ.blockRet ?_
        refine JQ.thenRet ?_
        refine JQ.thenRet ?_
        refine JQ.blockRet ?_
        refine JQ.thenRet ?_
        refine Done.two (.inl rfl) rfl (RV.tmp (v := .int .i64 0) rfl) (RV.tmp (v := .bool false) rfl) (List.nil_sublist _) ?_
        refine ⟨?_, rfl⟩
        rw [figs_step hlt, if_neg (by omega)] at hR
        rw [readDec_figs (by omega), ← hR]
      · skip
        refine JL.guardOn rfl rfl rfl (congrArg Value.bool (decide_eq_false h_8)) (JO.ofLO (LO.pure (PO.move (v := str t) he_3))) ?_
        rintro _ _ ⟨rfl, rfl⟩
        refine JL.guardOn rfl rfl rfl (congrArg Value.bool (decide_eq_false h_8)) (JO.ofLO (LO.pure (PO.move (v := .int .i64 ((j : Nat) : Int)) he_5))) ?_
        rintro _ _ ⟨rfl, rfl⟩
        refine JL.guardOn rfl rfl rfl (congrArg Value.bool (decide_eq_false h_8)) (JO.ofLO (LO.pure (PO.indexS (i := j) (c := t.getD j 0) Tryz.underlying9 rfl rfl (getD_some (by omega))))) ?_
        rintro _ _ ⟨rfl, rfl⟩
        have hu_9 := UInt8.toNat_lt (t.getD j 0)
        refine JL.guardOn rfl rfl rfl (congrArg Value.bool (decide_eq_false h_8)) (JO.ofLO (LO.pure (PO.gtr rfl rfl))) ?_
        rintro _ _ ⟨rfl, rfl⟩
        refine JL.pure rfl (PO.pickF (v := .bool (decide (57 < ((t.getD j 0).toNat : Int)))) (congrArg Value.bool (decide_eq_false h_8)) rfl) ?_
        refine JL.nil ?_
        refine JQ.seq ?_
        by_cases h_10 : 57 < ((t.getD j 0).toNat : Int)
        · skip
          refine JC.condT (congrArg Value.bool (decide_eq_true h_10)) ?_
          refine JC.seq ?_
          refine JC.region ?_
          refine JL.pure rfl (PO.assign (v := .int .i64 0) rfl) ?_
          refine JL.pure rfl (PO.assign (v := .bool false) rfl) ?_
          refine JL.nil ?_
          refine JQ.seq ?_
          refine JC.ret ?_
          refine JQ.thenRet ?_
          refine JQ.blockRet ?_
          refine JQ.thenRet ?_
          refine JQ.thenRet ?_
          refine JQ.blockRet ?_
          refine JQ.thenRet ?_
          refine Done.two (.inl rfl) rfl (RV.tmp (v := .int .i64 0) rfl) (RV.tmp (v := .bool false) rfl) (List.nil_sublist _) ?_
          refine ⟨?_, rfl⟩
          rw [figs_step hlt, if_neg (by omega)] at hR
          rw [readDec_figs (by omega), ← hR]
        · skip
          refine JC.condF (congrArg Value.bool (decide_eq_false h_10)) ?_
          refine JC.skip ?_
          refine JQ.seq ?_
          refine JC.region ?_
          refine JL.pure rfl (PO.move (v := .int .i64 n1) he_4) ?_
          refine JL.pure rfl (PO.mul (c := 10 * n1) rfl rfl (wr (by omega))) ?_
          refine JL.pure rfl (PO.move (v := str t) he_3) ?_
          refine JL.pure rfl (PO.move (v := .int .i64 ((j : Nat) : Int)) he_5) ?_
          refine JL.pure rfl (PO.indexS (i := j) (c := t.getD j 0) Tryz.underlying9 rfl rfl (getD_some (by omega))) ?_
          have hu_11 := UInt8.toNat_lt (t.getD j 0)
          refine JL.pure rfl (PO.convI (c := ((t.getD j 0).toNat : Int)) Tryz.underlying5 Tryz.underlying3 rfl (wr (by omega))) ?_
          refine JL.pure rfl (PO.add (c := (10 * n1) + ((t.getD j 0).toNat : Int)) rfl rfl (wr (by omega))) ?_
          refine JL.pure rfl (PO.sub (c := ((10 * n1) + ((t.getD j 0).toNat : Int)) - 48) rfl rfl (wr (by omega))) ?_
          refine JL.pure rfl (PO.assign (v := .int .i64 (((10 * n1) + ((t.getD j 0).toNat : Int)) - 48)) rfl) ?_
          refine JL.nil ?_
          refine JQ.blockN ?_
          refine JQ.seq ?_
          refine JC.region ?_
          refine JL.pure rfl (PO.move (v := .int .i64 ((j : Nat) : Int)) he_5) ?_
          refine JL.pure rfl (PO.add (c := ((j + 1 : Nat) : Int)) rfl rfl (wr (by omega))) ?_
          refine JL.pure rfl (PO.assign (v := .int .i64 ((j + 1 : Nat) : Int)) rfl) ?_
          refine JL.nil ?_
          refine JQ.again (t.length - (j + 1)) (by omega) ⟨j + 1, ((10 * n1) + ((t.getD j 0).toNat : Int)) - 48, by omega, by omega, (by rw [Nat.pow_succ]; omega), (by rw [figs_step hlt, if_pos (by omega)] at hR; exact hR), he_3, rfl, rfl, rfl, rfl⟩
    · skip
      have hpj : 10 ^ j ≤ 10000000000 := Nat.le_trans (Nat.pow_le_pow_right (by omega) (show j ≤ 10 by omega)) (by decide)
      rw [List.drop_of_length_le (by omega), figs] at hR
      refine JC.condF (congrArg Value.bool (decide_eq_false h_6)) ?_
      refine JC.exit ?_
      refine JQ.thenExit ?_
      refine JQ.thenExit ?_
      refine JQ.blockE ?_
      refine JQ.seq ?_
      refine JC.seq ?_
      refine JC.seq ?_
      refine JC.region ?_
      refine JL.pure rfl (PO.move (v := .int .i64 n1) he_4) ?_
      refine JL.pure rfl (PO.gtr rfl rfl) ?_
      refine JL.pure rfl (PO.move (v := .bool (decide (1000000000 < n1))) rfl) ?_
      by_cases h_12 : 1000000000 < n1
      · skip
        refine JL.guardOff (b := true) rfl rfl rfl (congrArg Value.bool (decide_eq_true h_12)) ?_
        refine JL.guardOff (b := true) rfl rfl rfl (congrArg Value.bool (decide_eq_true h_12)) ?_
        refine JL.guardOff (b := true) rfl rfl rfl (congrArg Value.bool (decide_eq_true h_12)) ?_
        refine JL.guardOff (b := true) rfl rfl rfl (congrArg Value.bool (decide_eq_true h_12)) ?_
        refine JL.pure rfl (PO.pickT (v := .bool true) (congrArg Value.bool (decide_eq_true h_12)) rfl) ?_
        refine JL.nil ?_
        refine JQ.seq ?_
        refine JC.condT (congrArg Value.bool rfl) ?_
        refine JC.seq ?_
        refine JC.region ?_
        refine JL.pure rfl (PO.assign (v := .int .i64 0) rfl) ?_
        refine JL.pure rfl (PO.assign (v := .bool false) rfl) ?_
        refine JL.nil ?_
        refine JQ.seq ?_
        refine JC.ret ?_
        refine JQ.thenRet ?_
        refine Done.two (.inl rfl) rfl (RV.tmp (v := .int .i64 0) rfl) (RV.tmp (v := .bool false) rfl) (List.nil_sublist _) ?_
        refine ⟨?_, rfl⟩
        rw [readDec_figs (by omega), ← hR]
        simp only
        rw [if_neg (fun h => by simp_all <;> omega)]
      · skip
        refine JL.guardOn rfl rfl rfl (congrArg Value.bool (decide_eq_false h_12)) (JO.ofLO (LO.pure (PO.move (v := .int .i64 n1) he_4))) ?_
        rintro _ _ ⟨rfl, rfl⟩
        refine JL.guardOn rfl rfl rfl (congrArg Value.bool (decide_eq_false h_12)) (JO.call [] Tryz.call276 rfl (C_sDec n1 (by omega) (by omega)) rfl (fun _ _ => trivial)) ?_
        rintro _ _ ⟨_, ⟨rfl, rfl⟩, rfl⟩
        refine JL.guardOn rfl rfl rfl (congrArg Value.bool (decide_eq_false h_12)) (JO.ofLO (LO.pure (PO.move (v := str t) he_3))) ?_
        rintro _ _ ⟨rfl, rfl⟩
        refine JL.guardOn rfl rfl rfl (congrArg Value.bool (decide_eq_false h_12)) (JO.ofLO (LO.pure (PO.neqS rfl rfl))) ?_
        rintro _ _ ⟨rfl, rfl⟩
        refine JL.pure rfl (PO.pickF (v := .bool (!(decide ((dec n1) = t)))) (congrArg Value.bool (decide_eq_false h_12)) rfl) ?_
        refine JL.nil ?_
        refine JQ.seq ?_
        by_cases h_13 : (dec n1) = t
        · skip
          refine JC.condF (congrArg Value.bool (congrArg Bool.not (decide_eq_true h_13))) ?_
          refine JC.skip ?_
          refine JQ.seq ?_
          refine JC.seq ?_
          refine JC.region ?_
          refine JL.pure rfl (PO.move (v := .int .i64 n1) he_4) ?_
          refine JL.pure rfl (PO.assign (v := .int .i64 n1) rfl) ?_
          refine JL.pure rfl (PO.assign (v := .bool true) rfl) ?_
          refine JL.nil ?_
          refine JQ.seq ?_
          refine JC.ret ?_
          refine Done.two (.inl rfl) rfl (RV.tmp (v := .int .i64 n1) rfl) (RV.tmp (v := .bool true) rfl) (List.nil_sublist _) ?_
          refine ⟨?_, rfl⟩
          rw [readDec_figs (by omega), ← hR]
          simp only
          rw [if_pos (by refine ⟨?_, ?_⟩ <;> first | omega | simp_all)]
        · skip
          refine JC.condT (congrArg Value.bool (congrArg Bool.not (decide_eq_false h_13))) ?_
          refine JC.seq ?_
          refine JC.region ?_
          refine JL.pure rfl (PO.assign (v := .int .i64 0) rfl) ?_
          refine JL.pure rfl (PO.assign (v := .bool false) rfl) ?_
          refine JL.nil ?_
          refine JQ.seq ?_
          refine JC.ret ?_
          refine JQ.thenRet ?_
          refine Done.two (.inl rfl) rfl (RV.tmp (v := .int .i64 0) rfl) (RV.tmp (v := .bool false) rfl) (List.nil_sublist _) ?_
          refine ⟨?_, rfl⟩
          rw [readDec_figs (by omega), ← hR]
          simp only
          rw [if_neg (fun h => by simp_all <;> omega)]

theorem C_sNumOf (t : Str) (ht : t.length ≤ 281474976710656) :
    Ct Tryz.prog 217 [str t] [] (fun _ => True) (fun v A' => v = .int .i64 (numOf t) ∧ A' = []) := by
  refine Ct.intro Tryz.func217 rfl Tryz.ntmps217 (Nat.le_of_ble_eq_true rfl) fun w0 hpre => ?_
  refine JC.seq ?_
  refine JC.region ?_
  refine JL.pure rfl (PO.assign (v := .int .i64 0) rfl) ?_
  refine JL.nil ?_
  refine JQ.seq ?_
  refine JC.seq ?_
  refine JC.region ?_
  refine JL.pure rfl (PO.move (v := str t) rfl) ?_
  refine JL.op rfl (JO.call [] Tryz.call275 rfl (C_sReadDec t ht) rfl (fun _ _ => trivial)) ?_
  rintro _ _ ⟨_, ⟨rfl, rfl⟩, rfl⟩
  refine JL.pure rfl (PO.move (v := .tuple #[.int .i64 ((readDec t).1), .bool ((readDec t).2)]) rfl) ?_
  refine JL.pure rfl (PO.extract (v := .int .i64 ((readDec t).1)) rfl rfl) ?_
  refine JL.pure rfl (PO.extract (v := .bool ((readDec t).2)) rfl rfl) ?_
  refine JL.pure rfl (PO.assign (v := .int .i64 ((readDec t).1)) rfl) ?_
  refine JL.pure rfl (PO.assign (v := .bool ((readDec t).2)) rfl) ?_
  refine JL.nil ?_
  refine JQ.seq ?_
  refine JC.seq ?_
  refine JC.seq ?_
  refine JC.region ?_
  refine JL.pure rfl (PO.move (v := .bool ((readDec t).2)) rfl) ?_
  refine JL.pure rfl (PO.not rfl) ?_
  refine JL.pure rfl (PO.move (v := .bool (!((readDec t).2))) rfl) ?_
  rcases Bool.eq_false_or_eq_true ((readDec t).2) with h_1 | h_1
  · skip
    refine JL.guardOn rfl rfl rfl (congrArg Value.bool (congrArg Bool.not h_1)) (JO.ofLO (LO.pure (PO.move (v := .int .i64 ((readDec t).1)) rfl))) ?_
    rintro _ _ ⟨rfl, rfl⟩
    refine JL.guardOn rfl rfl rfl (congrArg Value.bool (congrArg Bool.not h_1)) (JO.ofLO (LO.pure (PO.gtr rfl rfl))) ?_
    rintro _ _ ⟨rfl, rfl⟩
    refine JL.pure rfl (PO.pickF (v := .bool (decide (999 < ((readDec t).1)))) (congrArg Value.bool (congrArg Bool.not h_1)) rfl) ?_
    refine JL.nil ?_
    refine JQ.seq ?_
    by_cases h_2 : 999 < ((readDec t).1)
    · skip
      refine JC.condT (congrArg Value.bool (decide_eq_true h_2)) ?_
      refine JC.seq ?_
      refine JC.region ?_
      refine JL.pure rfl (PO.assign (v := .int .i64 0) rfl) ?_
      refine JL.nil ?_
      refine JQ.seq ?_
      refine JC.ret ?_
      refine JQ.thenRet ?_
      refine Done.one (.inl rfl) rfl (RV.tmp (v := .int .i64 0) rfl) (List.nil_sublist _) ?_
      refine ⟨?_, rfl⟩
      unfold numOf
      first | rw [if_pos (by omega)] | (rw [if_neg (by omega)] <;> first | rfl | (congr 1; omega))
    · skip
      refine JC.condF (congrArg Value.bool (decide_eq_false h_2)) ?_
      refine JC.skip ?_
      refine JQ.seq ?_
      refine JC.seq ?_
      refine JC.region ?_
      refine JL.pure rfl (PO.move (v := .int .i64 ((readDec t).1)) rfl) ?_
      refine JL.pure rfl (PO.assign (v := .int .i64 ((readDec t).1)) rfl) ?_
      refine JL.nil ?_
      refine JQ.seq ?_
      refine JC.ret ?_
      refine Done.one (.inl rfl) rfl (RV.tmp (v := .int .i64 ((readDec t).1)) rfl) (List.nil_sublist _) ?_
      refine ⟨?_, rfl⟩
      unfold numOf
      first | rw [if_pos (by omega)] | (rw [if_neg (by omega)] <;> first | rfl | (congr 1; omega))
  · skip
    refine JL.guardOff (b := true) rfl rfl rfl (congrArg Value.bool (congrArg Bool.not h_1)) ?_
    refine JL.guardOff (b := true) rfl rfl rfl (congrArg Value.bool (congrArg Bool.not h_1)) ?_
    refine JL.pure rfl (PO.pickT (v := .bool true) (congrArg Value.bool (congrArg Bool.not h_1)) rfl) ?_
    refine JL.nil ?_
    refine JQ.seq ?_
    refine JC.condT (congrArg Value.bool rfl) ?_
    refine JC.seq ?_
    refine JC.region ?_
    refine JL.pure rfl (PO.assign (v := .int .i64 0) rfl) ?_
    refine JL.nil ?_
    refine JQ.seq ?_
    refine JC.ret ?_
    refine JQ.thenRet ?_
    refine Done.one (.inl rfl) rfl (RV.tmp (v := .int .i64 0) rfl) (List.nil_sublist _) ?_
    refine ⟨?_, rfl⟩
    unfold numOf
    have hz := readDec_no h_1
    first | rw [if_pos (by omega)] | (rw [if_neg (by omega)] <;> first | rfl | (congr 1; omega))

theorem C_joinTouch (a1 a2 e1 e2 : Option Addr) (c1 c2 f1 f2 : Nat) (r w r' w' : List Str) (h1 : r.length ≤ 1000000000) (h2 : w.length ≤ 1000000000) (h3 : r'.length ≤ 1000000000) (h4 : w'.length ≤ 1000000000) :
    Ct Tryz.prog 234 [.agg #[.slice a1 r.length c1, .slice a2 w.length c2], .agg #[.slice e1 r'.length f1, .slice e2 w'.length f2]] [] (fun w_ => Sees w_ (.slice a1 r.length c1) 1 r.length (r.map str) ∧ Sees w_ (.slice a2 w.length c2) 1 w.length (w.map str) ∧ Sees w_ (.slice e1 r'.length f1) 1 r'.length (r'.map str) ∧ Sees w_ (.slice e2 w'.length f2) 1 w'.length (w'.map str)) (fun v A' => ∃ x1 y1 x2 y2, v = .agg #[.slice x1 (r'.foldl addSpan r).length y1, .slice x2 (w'.foldl addSpan w).length y2] ∧ A' = [.row (.slice x1 (r'.foldl addSpan r).length y1) 9 1 (r'.foldl addSpan r).length ((r'.foldl addSpan r).map str), .row (.slice x2 (w'.foldl addSpan w).length y2) 9 1 (w'.foldl addSpan w).length ((w'.foldl addSpan w).map str)]) := by
  refine Ct.intro Tryz.func234 rfl Tryz.ntmps234 (Nat.le_of_ble_eq_true rfl) fun w0 hpre => ?_
  have hs_a1 : Sees w0 _ _ _ _ := hpre.1
  have hs_a2 : Sees w0 _ _ _ _ := hpre.2.1
  have hs_e1 : Sees w0 _ _ _ _ := hpre.2.2.1
  have hs_e2 : Sees w0 _ _ _ _ := hpre.2.2.2
  refine JC.seq ?_
  refine JC.region ?_
  refine JL.op rfl (JO.box (cs := [.slice a1 r.length c1, .slice a2 w.length c2]) rfl rfl) ?_
  rintro _ _ ⟨b_1, rfl, rfl⟩
  refine JL.op rfl (JO.box (cs := [.slice e1 r'.length f1, .slice e2 w'.length f2]) rfl rfl) ?_
  rintro _ _ ⟨b_2, rfl, rfl⟩
  refine JL.op rfl (JO.alloc (z := .agg #[.slice none 0 0, .slice none 0 0]) (cs := [.slice none 0 0, .slice none 0 0]) Tryz.zeroValue30 rfl) ?_
  rintro _ _ ⟨b_3, rfl, rfl⟩
  refine JL.nil ?_
  refine JQ.seq ?_
  refine JC.seq ?_
  refine JC.cut (fun e_ L_ => ∃ q : Nat, ∃ x1 : Option Addr, ∃ y1 : Nat, ∃ x2 : Option Addr, ∃ y2 : Nat, e_ 3 = .pointer (some ⟨b_2, 0, none⟩) ∧ e_ 4 = .pointer (some ⟨b_3, 0, none⟩) ∧ e_ 5 = .pointer (some ⟨q, 0, none⟩) ∧ L_ = [bk q 30 [.slice x1 r.length y1, .slice x2 w.length y2], Res.row (.slice x1 r.length y1) 9 1 r.length (r.map str), Res.row (.slice x2 w.length y2) 9 1 w.length (w.map str), bk b_3 30 [.slice none 0 0, .slice none 0 0], bk b_2 30 [.slice e1 r'.length f1, .slice e2 w'.length f2]]) ?_ ?_
  · skip
    refine JC.regionA [bk b_3 30 [.slice none 0 0, .slice none 0 0], bk b_2 30 [.slice e1 r'.length f1, .slice e2 w'.length f2], bk b_1 30 [.slice a1 r.length c1, .slice a2 w.length c2]] 10 mixed (by simp) ?_
    refine JA.takeP 1 rfl (by kernel_rfl) NP.cut (by kernel_rfl) (by kernel_rfl) rfl (PO.fieldAddr fo30_0 rfl) ?_
    refine JA.take 2 rfl (by kernel_rfl) NP.cut (by kernel_rfl) (by kernel_rfl) (by kernel_rfl) rfl (LO.load1 2 (v := .slice a1 r.length c1) rfl rfl Tryz.isAgg23 rfl) ?_
    refine JA.takeP 5 rfl (by kernel_rfl) NP.cut (by kernel_rfl) (by kernel_rfl) rfl (PO.fieldAddr fo30_1 rfl) ?_
    refine JA.take 6 rfl (by kernel_rfl) NP.cut (by kernel_rfl) (by kernel_rfl) (by kernel_rfl) rfl (LO.load1 2 (v := .slice a2 w.length c2) rfl rfl Tryz.isAgg23 rfl) ?_
    refine JA.three (i := 0) (j := 4) (k := 9) (by kernel_rfl) ?_ ?_ ?_
    · skip
      refine JX.op rfl rfl (JO.buildSlice (ps := []) (cur := #[]) Tryz.underlying23 Tryz.sizeOf9 Tryz.zeroValue9 rfl (by kernel_rfl) (by decide) (by decide)) ?_
      rintro _ _ ⟨a_13, rfl, rfl⟩
      refine ⟨by simp, ?_⟩
      refine JA.three (i := 3) (j := 4) (k := 9) (by kernel_rfl) ?_ ?_ ?_
      · skip
        refine JX.op rfl rfl (JO.append' 0 (q := r.length) (news := r.map str) (n' := r.length) (cs' := r.map str) rfl Tryz.underlying23 Tryz.underlying23 Tryz.typeInfo9 rfl (by' := 16) rfl rfl rfl rfl rfl (fun w hw => Src.sees (hw.seeOut_ hs_a1 (fun _ _ => List.not_mem_nil)) (oneS _)) (by (try simp only [List.length_append, List.length_cons, List.length_nil, List.length_take, List.length_drop]); omega) (by (try simp only [List.length_append, List.length_cons, List.length_nil, List.length_take, List.length_drop]); omega) (by (try simp only [List.length_take, List.length_drop]); first | rfl | omega) rfl) ?_
        rintro _ _ ⟨a_18, c_19, rfl, rfl⟩
        refine ⟨by simp, ?_⟩
        refine JA.two (i := 4) (j := 9) (by kernel_rfl) ?_ ?_
        · skip
          refine JX.op rfl rfl (JO.buildSlice (ps := []) (cur := #[]) Tryz.underlying23 Tryz.sizeOf9 Tryz.zeroValue9 rfl (by kernel_rfl) (by decide) (by decide)) ?_
          rintro _ _ ⟨a_22, rfl, rfl⟩
          refine ⟨by simp, ?_⟩
          refine JA.two (i := 7) (j := 9) (by kernel_rfl) ?_ ?_
          · skip
            refine JX.op rfl rfl (JO.append' 0 (q := w.length) (news := w.map str) (n' := w.length) (cs' := w.map str) rfl Tryz.underlying23 Tryz.underlying23 Tryz.typeInfo9 rfl (by' := 16) rfl rfl rfl rfl rfl (fun w hw => Src.sees (hw.seeOut_ hs_a2 (fun _ _ => List.not_mem_nil)) (oneS _)) (by (try simp only [List.length_append, List.length_cons, List.length_nil, List.length_take, List.length_drop]); omega) (by (try simp only [List.length_append, List.length_cons, List.length_nil, List.length_take, List.length_drop]); omega) (by (try simp only [List.length_take, List.length_drop]); first | rfl | omega) rfl) ?_
            rintro _ _ ⟨a_26, c_27, rfl, rfl⟩
            refine ⟨by simp, ?_⟩
            refine JA.takeP 8 rfl (by kernel_rfl) NP.cut (by kernel_rfl) (by kernel_rfl) rfl (PO.build (ps := [(0, .slice a_18 r.length c_19), (1, .slice a_26 w.length c_27)]) (cs := [.slice a_18 r.length c_19, .slice a_26 w.length c_27]) rfl (by kernel_rfl)) ?_
            refine JA.one (i := 9) (by kernel_rfl) ?_
            refine JX.op rfl rfl (JO.alloc (z := .agg #[.slice none 0 0, .slice none 0 0]) (cs := [.slice none 0 0, .slice none 0 0]) Tryz.zeroValue30 rfl) ?_
            rintro _ _ ⟨b_29, rfl, rfl⟩
            refine ⟨by simp, ?_⟩
            refine JA.one (i := 10) (by kernel_rfl) ?_
            refine JX.last rfl rfl (by decide) (by kernel_rfl) (JO.store 0 (vs := [.slice a_18 r.length c_19, .slice a_26 w.length c_27]) (cs' := [.slice a_18 r.length c_19, .slice a_26 w.length c_27]) rfl rfl rfl rfl Tryz.sizeOf30 rfl rfl (Nat.le_of_ble_eq_true rfl) rfl) ?_
            rintro _ _ rfl
            refine JQ.pick [0, 1, 0, 0, 0] (A := [bk b_29 30 [.slice a_18 r.length c_19, .slice a_26 w.length c_27], Res.row (.slice a_18 r.length c_19) 9 1 r.length (r.map str), Res.row (.slice a_26 w.length c_27) 9 1 w.length (w.map str), bk b_3 30 [.slice none 0 0, .slice none 0 0], bk b_2 30 [.slice e1 r'.length f1, .slice e2 w'.length f2]]) rfl ?_
            exact JQ.cut ⟨b_29, a_18, c_19, a_26, c_27, rfl, rfl, rfl, rfl⟩
          · skip
            refine JX.op rfl rfl (JO.alloc (z := .agg #[.slice none 0 0, .slice none 0 0]) (cs := [.slice none 0 0, .slice none 0 0]) Tryz.zeroValue30 rfl) ?_
            rintro _ _ ⟨b_30, rfl, rfl⟩
            refine ⟨by simp, ?_⟩
            refine JA.one (i := 7) (by kernel_rfl) ?_
            refine JX.op rfl rfl (JO.append' 1 (q := w.length) (news := w.map str) (n' := w.length) (cs' := w.map str) rfl Tryz.underlying23 Tryz.underlying23 Tryz.typeInfo9 rfl (by' := 16) rfl rfl rfl rfl rfl (fun w hw => Src.sees (hw.seeOut_ hs_a2 (fun _ _ => List.not_mem_nil)) (oneS _)) (by (try simp only [List.length_append, List.length_cons, List.length_nil, List.length_take, List.length_drop]); omega) (by (try simp only [List.length_append, List.length_cons, List.length_nil, List.length_take, List.length_drop]); omega) (by (try simp only [List.length_take, List.length_drop]); first | rfl | omega) rfl) ?_
            rintro _ _ ⟨a_33, c_34, rfl, rfl⟩
            refine ⟨by simp, ?_⟩
            refine JA.takeP 8 rfl (by kernel_rfl) NP.cut (by kernel_rfl) (by kernel_rfl) rfl (PO.build (ps := [(0, .slice a_18 r.length c_19), (1, .slice a_33 w.length c_34)]) (cs := [.slice a_18 r.length c_19, .slice a_33 w.length c_34]) rfl (by kernel_rfl)) ?_
            refine JA.one (i := 10) (by kernel_rfl) ?_
            refine JX.last rfl rfl (by decide) (by kernel_rfl) (JO.store 0 (vs := [.slice a_18 r.length c_19, .slice a_33 w.length c_34]) (cs' := [.slice a_18 r.length c_19, .slice a_33 w.length c_34]) rfl rfl rfl rfl Tryz.sizeOf30 rfl rfl (Nat.le_of_ble_eq_true rfl) rfl) ?_
            rintro _ _ rfl
            refine JQ.pick [0, 1, 0, 0, 0] (A := [bk b_30 30 [.slice a_18 r.length c_19, .slice a_33 w.length c_34], Res.row (.slice a_18 r.length c_19) 9 1 r.length (r.map str), Res.row (.slice a_33 w.length c_34) 9 1 w.length (w.map str), bk b_3 30 [.slice none 0 0, .slice none 0 0], bk b_2 30 [.slice e1 r'.length f1, .slice e2 w'.length f2]]) rfl ?_
            exact JQ.cut ⟨b_30, a_18, c_19, a_33, c_34, rfl, rfl, rfl, rfl⟩
        · skip
          refine JX.op rfl rfl (JO.alloc (z := .agg #[.slice none 0 0, .slice none 0 0]) (cs := [.slice none 0 0, .slice none 0 0]) Tryz.zeroValue30 rfl) ?_
          rintro _ _ ⟨b_35, rfl, rfl⟩
          refine ⟨by simp, ?_⟩
          refine JA.one (i := 4) (by kernel_rfl) ?_
          refine JX.op rfl rfl (JO.buildSlice (ps := []) (cur := #[]) Tryz.underlying23 Tryz.sizeOf9 Tryz.zeroValue9 rfl (by kernel_rfl) (by decide) (by decide)) ?_
          rintro _ _ ⟨a_37, rfl, rfl⟩
          refine ⟨by simp, ?_⟩
          refine JA.one (i := 7) (by kernel_rfl) ?_
          refine JX.op rfl rfl (JO.append' 0 (q := w.length) (news := w.map str) (n' := w.length) (cs' := w.map str) rfl Tryz.underlying23 Tryz.underlying23 Tryz.typeInfo9 rfl (by' := 16) rfl rfl rfl rfl rfl (fun w hw => Src.sees (hw.seeOut_ hs_a2 (fun _ _ => List.not_mem_nil)) (oneS _)) (by (try simp only [List.length_append, List.length_cons, List.length_nil, List.length_take, List.length_drop]); omega) (by (try simp only [List.length_append, List.length_cons, List.length_nil, List.length_take, List.length_drop]); omega) (by (try simp only [List.length_take, List.length_drop]); first | rfl | omega) rfl) ?_
          rintro _ _ ⟨a_40, c_41, rfl, rfl⟩
          refine ⟨by simp, ?_⟩
          refine JA.takeP 8 rfl (by kernel_rfl) NP.cut (by kernel_rfl) (by kernel_rfl) rfl (PO.build (ps := [(0, .slice a_18 r.length c_19), (1, .slice a_40 w.length c_41)]) (cs := [.slice a_18 r.length c_19, .slice a_40 w.length c_41]) rfl (by kernel_rfl)) ?_
          refine JA.one (i := 10) (by kernel_rfl) ?_
          refine JX.last rfl rfl (by decide) (by kernel_rfl) (JO.store 1 (vs := [.slice a_18 r.length c_19, .slice a_40 w.length c_41]) (cs' := [.slice a_18 r.length c_19, .slice a_40 w.length c_41]) rfl rfl rfl rfl Tryz.sizeOf30 rfl rfl (Nat.le_of_ble_eq_true rfl) rfl) ?_
          rintro _ _ rfl
          refine JQ.pick [1, 1, 0, 0, 0] (A := [bk b_35 30 [.slice a_18 r.length c_19, .slice a_40 w.length c_41], Res.row (.slice a_18 r.length c_19) 9 1 r.length (r.map str), Res.row (.slice a_40 w.length c_41) 9 1 w.length (w.map str), bk b_3 30 [.slice none 0 0, .slice none 0 0], bk b_2 30 [.slice e1 r'.length f1, .slice e2 w'.length f2]]) rfl ?_
          exact JQ.cut ⟨b_35, a_18, c_19, a_40, c_41, rfl, rfl, rfl, rfl⟩
      · skip
        refine JX.op rfl rfl (JO.buildSlice (ps := []) (cur := #[]) Tryz.underlying23 Tryz.sizeOf9 Tryz.zeroValue9 rfl (by kernel_rfl) (by decide) (by decide)) ?_
        rintro _ _ ⟨a_42, rfl, rfl⟩
        refine ⟨by simp, ?_⟩
        refine JA.two (i := 3) (j := 9) (by kernel_rfl) ?_ ?_
        · skip
          refine JX.op rfl rfl (JO.append' 1 (q := r.length) (news := r.map str) (n' := r.length) (cs' := r.map str) rfl Tryz.underlying23 Tryz.underlying23 Tryz.typeInfo9 rfl (by' := 16) rfl rfl rfl rfl rfl (fun w hw => Src.sees (hw.seeOut_ hs_a1 (fun _ _ => List.not_mem_nil)) (oneS _)) (by (try simp only [List.length_append, List.length_cons, List.length_nil, List.length_take, List.length_drop]); omega) (by (try simp only [List.length_append, List.length_cons, List.length_nil, List.length_take, List.length_drop]); omega) (by (try simp only [List.length_take, List.length_drop]); first | rfl | omega) rfl) ?_
          rintro _ _ ⟨a_46, c_47, rfl, rfl⟩
          refine ⟨by simp, ?_⟩
          refine JA.two (i := 7) (j := 9) (by kernel_rfl) ?_ ?_
          · skip
            refine JX.op rfl rfl (JO.append' 0 (q := w.length) (news := w.map str) (n' := w.length) (cs' := w.map str) rfl Tryz.underlying23 Tryz.underlying23 Tryz.typeInfo9 rfl (by' := 16) rfl rfl rfl rfl rfl (fun w hw => Src.sees (hw.seeOut_ hs_a2 (fun _ _ => List.not_mem_nil)) (oneS _)) (by (try simp only [List.length_append, List.length_cons, List.length_nil, List.length_take, List.length_drop]); omega) (by (try simp only [List.length_append, List.length_cons, List.length_nil, List.length_take, List.length_drop]); omega) (by (try simp only [List.length_take, List.length_drop]); first | rfl | omega) rfl) ?_
            rintro _ _ ⟨a_51, c_52, rfl, rfl⟩
            refine ⟨by simp, ?_⟩
            refine JA.takeP 8 rfl (by kernel_rfl) NP.cut (by kernel_rfl) (by kernel_rfl) rfl (PO.build (ps := [(0, .slice a_46 r.length c_47), (1, .slice a_51 w.length c_52)]) (cs := [.slice a_46 r.length c_47, .slice a_51 w.length c_52]) rfl (by kernel_rfl)) ?_
            refine JA.one (i := 9) (by kernel_rfl) ?_
            refine JX.op rfl rfl (JO.alloc (z := .agg #[.slice none 0 0, .slice none 0 0]) (cs := [.slice none 0 0, .slice none 0 0]) Tryz.zeroValue30 rfl) ?_
            rintro _ _ ⟨b_54, rfl, rfl⟩
            refine ⟨by simp, ?_⟩
            refine JA.one (i := 10) (by kernel_rfl) ?_
            refine JX.last rfl rfl (by decide) (by kernel_rfl) (JO.store 0 (vs := [.slice a_46 r.length c_47, .slice a_51 w.length c_52]) (cs' := [.slice a_46 r.length c_47, .slice a_51 w.length c_52]) rfl rfl rfl rfl Tryz.sizeOf30 rfl rfl (Nat.le_of_ble_eq_true rfl) rfl) ?_
            rintro _ _ rfl
            refine JQ.pick [0, 1, 0, 0, 0] (A := [bk b_54 30 [.slice a_46 r.length c_47, .slice a_51 w.length c_52], Res.row (.slice a_46 r.length c_47) 9 1 r.length (r.map str), Res.row (.slice a_51 w.length c_52) 9 1 w.length (w.map str), bk b_3 30 [.slice none 0 0, .slice none 0 0], bk b_2 30 [.slice e1 r'.length f1, .slice e2 w'.length f2]]) rfl ?_
            exact JQ.cut ⟨b_54, a_46, c_47, a_51, c_52, rfl, rfl, rfl, rfl⟩
          · skip
            refine JX.op rfl rfl (JO.alloc (z := .agg #[.slice none 0 0, .slice none 0 0]) (cs := [.slice none 0 0, .slice none 0 0]) Tryz.zeroValue30 rfl) ?_
            rintro _ _ ⟨b_55, rfl, rfl⟩
            refine ⟨by simp, ?_⟩
            refine JA.one (i := 7) (by kernel_rfl) ?_
            refine JX.op rfl rfl (JO.append' 1 (q := w.length) (news := w.map str) (n' := w.length) (cs' := w.map str) rfl Tryz.underlying23 Tryz.underlying23 Tryz.typeInfo9 rfl (by' := 16) rfl rfl rfl rfl rfl (fun w hw => Src.sees (hw.seeOut_ hs_a2 (fun _ _ => List.not_mem_nil)) (oneS _)) (by (try simp only [List.length_append, List.length_cons, List.length_nil, List.length_take, List.length_drop]); omega) (by (try simp only [List.length_append, List.length_cons, List.length_nil, List.length_take, List.length_drop]); omega) (by (try simp only [List.length_take, List.length_drop]); first | rfl | omega) rfl) ?_
            rintro _ _ ⟨a_58, c_59, rfl, rfl⟩
            refine ⟨by simp, ?_⟩
            refine JA.takeP 8 rfl (by kernel_rfl) NP.cut (by kernel_rfl) (by kernel_rfl) rfl (PO.build (ps := [(0, .slice a_46 r.length c_47), (1, .slice a_58 w.length c_59)]) (cs := [.slice a_46 r.length c_47, .slice a_58 w.length c_59]) rfl (by kernel_rfl)) ?_
            refine JA.one (i := 10) (by kernel_rfl) ?_
            refine JX.last rfl rfl (by decide) (by kernel_rfl) (JO.store 0 (vs := [.slice a_46 r.length c_47, .slice a_58 w.length c_59]) (cs' := [.slice a_46 r.length c_47, .slice a_58 w.length c_59]) rfl rfl rfl rfl Tryz.sizeOf30 rfl rfl (Nat.le_of_ble_eq_true rfl) rfl) ?_
            rintro _ _ rfl
            refine JQ.pick [0, 1, 0, 0, 0] (A := [bk b_55 30 [.slice a_46 r.length c_47, .slice a_58 w.length c_59], Res.row (.slice a_46 r.length c_47) 9 1 r.length (r.map str), Res.row (.slice a_58 w.length c_59) 9 1 w.length (w.map str), bk b_3 30 [.slice none 0 0, .slice none 0 0], bk b_2 30 [.slice e1 r'.length f1, .slice e2 w'.length f2]]) rfl ?_
            exact JQ.cut ⟨b_55, a_46, c_47, a_58, c_59, rfl, rfl, rfl, rfl⟩
        · skip
          refine JX.op rfl rfl (JO.alloc (z := .agg #[.slice none 0 0, .slice none 0 0]) (cs := [.slice none 0 0, .slice none 0 0]) Tryz.zeroValue30 rfl) ?_
          rintro _ _ ⟨b_60, rfl, rfl⟩
          refine ⟨by simp, ?_⟩
          refine JA.one (i := 3) (by kernel_rfl) ?_
          refine JX.op rfl rfl (JO.append' 2 (q := r.length) (news := r.map str) (n' := r.length) (cs' := r.map str) rfl Tryz.underlying23 Tryz.underlying23 Tryz.typeInfo9 rfl (by' := 16) rfl rfl rfl rfl rfl (fun w hw => Src.sees (hw.seeOut_ hs_a1 (fun _ _ => List.not_mem_nil)) (oneS _)) (by (try simp only [List.length_append, List.length_cons, List.length_nil, List.length_take, List.length_drop]); omega) (by (try simp only [List.length_append, List.length_cons, List.length_nil, List.length_take, List.length_drop]); omega) (by (try simp only [List.length_take, List.length_drop]); first | rfl | omega) rfl) ?_
          rintro _ _ ⟨a_63, c_64, rfl, rfl⟩
          refine ⟨by simp, ?_⟩
          refine JA.one (i := 7) (by kernel_rfl) ?_
          refine JX.op rfl rfl (JO.append' 1 (q := w.length) (news := w.map str) (n' := w.length) (cs' := w.map str) rfl Tryz.underlying23 Tryz.underlying23 Tryz.typeInfo9 rfl (by' := 16) rfl rfl rfl rfl rfl (fun w hw => Src.sees (hw.seeOut_ hs_a2 (fun _ _ => List.not_mem_nil)) (oneS _)) (by (try simp only [List.length_append, List.length_cons, List.length_nil, List.length_take, List.length_drop]); omega) (by (try simp only [List.length_append, List.length_cons, List.length_nil, List.length_take, List.length_drop]); omega) (by (try simp only [List.length_take, List.length_drop]); first | rfl | omega) rfl) ?_
          rintro _ _ ⟨a_67, c_68, rfl, rfl⟩
          refine ⟨by simp, ?_⟩
          refine JA.takeP 8 rfl (by kernel_rfl) NP.cut (by kernel_rfl) (by kernel_rfl) rfl (PO.build (ps := [(0, .slice a_63 r.length c_64), (1, .slice a_67 w.length c_68)]) (cs := [.slice a_63 r.length c_64, .slice a_67 w.length c_68]) rfl (by kernel_rfl)) ?_
          refine JA.one (i := 10) (by kernel_rfl) ?_
          refine JX.last rfl rfl (by decide) (by kernel_rfl) (JO.store 0 (vs := [.slice a_63 r.length c_64, .slice a_67 w.length c_68]) (cs' := [.slice a_63 r.length c_64, .slice a_67 w.length c_68]) rfl rfl rfl rfl Tryz.sizeOf30 rfl rfl (Nat.le_of_ble_eq_true rfl) rfl) ?_
          rintro _ _ rfl
          refine JQ.pick [0, 1, 0, 0, 0] (A := [bk b_60 30 [.slice a_63 r.length c_64, .slice a_67 w.length c_68], Res.row (.slice a_63 r.length c_64) 9 1 r.length (r.map str), Res.row (.slice a_67 w.length c_68) 9 1 w.length (w.map str), bk b_3 30 [.slice none 0 0, .slice none 0 0], bk b_2 30 [.slice e1 r'.length f1, .slice e2 w'.length f2]]) rfl ?_
          exact JQ.cut ⟨b_60, a_63, c_64, a_67, c_68, rfl, rfl, rfl, rfl⟩
      · skip
        refine JX.op rfl rfl (JO.alloc (z := .agg #[.slice none 0 0, .slice none 0 0]) (cs := [.slice none 0 0, .slice none 0 0]) Tryz.zeroValue30 rfl) ?_
        rintro _ _ ⟨b_69, rfl, rfl⟩
        refine ⟨by simp, ?_⟩
        refine JA.two (i := 3) (j := 4) (by kernel_rfl) ?_ ?_
        · skip
          refine JX.op rfl rfl (JO.append' 1 (q := r.length) (news := r.map str) (n' := r.length) (cs' := r.map str) rfl Tryz.underlying23 Tryz.underlying23 Tryz.typeInfo9 rfl (by' := 16) rfl rfl rfl rfl rfl (fun w hw => Src.sees (hw.seeOut_ hs_a1 (fun _ _ => List.not_mem_nil)) (oneS _)) (by (try simp only [List.length_append, List.length_cons, List.length_nil, List.length_take, List.length_drop]); omega) (by (try simp only [List.length_append, List.length_cons, List.length_nil, List.length_take, List.length_drop]); omega) (by (try simp only [List.length_take, List.length_drop]); first | rfl | omega) rfl) ?_
          rintro _ _ ⟨a_73, c_74, rfl, rfl⟩
          refine ⟨by simp, ?_⟩
          refine JA.one (i := 4) (by kernel_rfl) ?_
          refine JX.op rfl rfl (JO.buildSlice (ps := []) (cur := #[]) Tryz.underlying23 Tryz.sizeOf9 Tryz.zeroValue9 rfl (by kernel_rfl) (by decide) (by decide)) ?_
          rintro _ _ ⟨a_76, rfl, rfl⟩
          refine ⟨by simp, ?_⟩
          refine JA.one (i := 7) (by kernel_rfl) ?_
          refine JX.op rfl rfl (JO.append' 0 (q := w.length) (news := w.map str) (n' := w.length) (cs' := w.map str) rfl Tryz.underlying23 Tryz.underlying23 Tryz.typeInfo9 rfl (by' := 16) rfl rfl rfl rfl rfl (fun w hw => Src.sees (hw.seeOut_ hs_a2 (fun _ _ => List.not_mem_nil)) (oneS _)) (by (try simp only [List.length_append, List.length_cons, List.length_nil, List.length_take, List.length_drop]); omega) (by (try simp only [List.length_append, List.length_cons, List.length_nil, List.length_take, List.length_drop]); omega) (by (try simp only [List.length_take, List.length_drop]); first | rfl | omega) rfl) ?_
          rintro _ _ ⟨a_79, c_80, rfl, rfl⟩
          refine ⟨by simp, ?_⟩
          refine JA.takeP 8 rfl (by kernel_rfl) NP.cut (by kernel_rfl) (by kernel_rfl) rfl (PO.build (ps := [(0, .slice a_73 r.length c_74), (1, .slice a_79 w.length c_80)]) (cs := [.slice a_73 r.length c_74, .slice a_79 w.length c_80]) rfl (by kernel_rfl)) ?_
          refine JA.one (i := 10) (by kernel_rfl) ?_
          refine JX.last rfl rfl (by decide) (by kernel_rfl) (JO.store 1 (vs := [.slice a_73 r.length c_74, .slice a_79 w.length c_80]) (cs' := [.slice a_73 r.length c_74, .slice a_79 w.length c_80]) rfl rfl rfl rfl Tryz.sizeOf30 rfl rfl (Nat.le_of_ble_eq_true rfl) rfl) ?_
          rintro _ _ rfl
          refine JQ.pick [1, 1, 0, 0, 0] (A := [bk b_69 30 [.slice a_73 r.length c_74, .slice a_79 w.length c_80], Res.row (.slice a_73 r.length c_74) 9 1 r.length (r.map str), Res.row (.slice a_79 w.length c_80) 9 1 w.length (w.map str), bk b_3 30 [.slice none 0 0, .slice none 0 0], bk b_2 30 [.slice e1 r'.length f1, .slice e2 w'.length f2]]) rfl ?_
          exact JQ.cut ⟨b_69, a_73, c_74, a_79, c_80, rfl, rfl, rfl, rfl⟩
        · skip
          refine JX.op rfl rfl (JO.buildSlice (ps := []) (cur := #[]) Tryz.underlying23 Tryz.sizeOf9 Tryz.zeroValue9 rfl (by kernel_rfl) (by decide) (by decide)) ?_
          rintro _ _ ⟨a_81, rfl, rfl⟩
          refine ⟨by simp, ?_⟩
          refine JA.one (i := 3) (by kernel_rfl) ?_
          refine JX.op rfl rfl (JO.append' 2 (q := r.length) (news := r.map str) (n' := r.length) (cs' := r.map str) rfl Tryz.underlying23 Tryz.underlying23 Tryz.typeInfo9 rfl (by' := 16) rfl rfl rfl rfl rfl (fun w hw => Src.sees (hw.seeOut_ hs_a1 (fun _ _ => List.not_mem_nil)) (oneS _)) (by (try simp only [List.length_append, List.length_cons, List.length_nil, List.length_take, List.length_drop]); omega) (by (try simp only [List.length_append, List.length_cons, List.length_nil, List.length_take, List.length_drop]); omega) (by (try simp only [List.length_take, List.length_drop]); first | rfl | omega) rfl) ?_
          rintro _ _ ⟨a_84, c_85, rfl, rfl⟩
          refine ⟨by simp, ?_⟩
          refine JA.one (i := 7) (by kernel_rfl) ?_
          refine JX.op rfl rfl (JO.append' 0 (q := w.length) (news := w.map str) (n' := w.length) (cs' := w.map str) rfl Tryz.underlying23 Tryz.underlying23 Tryz.typeInfo9 rfl (by' := 16) rfl rfl rfl rfl rfl (fun w hw => Src.sees (hw.seeOut_ hs_a2 (fun _ _ => List.not_mem_nil)) (oneS _)) (by (try simp only [List.length_append, List.length_cons, List.length_nil, List.length_take, List.length_drop]); omega) (by (try simp only [List.length_append, List.length_cons, List.length_nil, List.length_take, List.length_drop]); omega) (by (try simp only [List.length_take, List.length_drop]); first | rfl | omega) rfl) ?_
          rintro _ _ ⟨a_88, c_89, rfl, rfl⟩
          refine ⟨by simp, ?_⟩
          refine JA.takeP 8 rfl (by kernel_rfl) NP.cut (by kernel_rfl) (by kernel_rfl) rfl (PO.build (ps := [(0, .slice a_84 r.length c_85), (1, .slice a_88 w.length c_89)]) (cs := [.slice a_84 r.length c_85, .slice a_88 w.length c_89]) rfl (by kernel_rfl)) ?_
          refine JA.one (i := 10) (by kernel_rfl) ?_
          refine JX.last rfl rfl (by decide) (by kernel_rfl) (JO.store 1 (vs := [.slice a_84 r.length c_85, .slice a_88 w.length c_89]) (cs' := [.slice a_84 r.length c_85, .slice a_88 w.length c_89]) rfl rfl rfl rfl Tryz.sizeOf30 rfl rfl (Nat.le_of_ble_eq_true rfl) rfl) ?_
          rintro _ _ rfl
          refine JQ.pick [1, 1, 0, 0, 0] (A := [bk b_69 30 [.slice a_84 r.length c_85, .slice a_88 w.length c_89], Res.row (.slice a_84 r.length c_85) 9 1 r.length (r.map str), Res.row (.slice a_88 w.length c_89) 9 1 w.length (w.map str), bk b_3 30 [.slice none 0 0, .slice none 0 0], bk b_2 30 [.slice e1 r'.length f1, .slice e2 w'.length f2]]) rfl ?_
          exact JQ.cut ⟨b_69, a_84, c_85, a_88, c_89, rfl, rfl, rfl, rfl⟩
    · skip
      refine JX.op rfl rfl (JO.buildSlice (ps := []) (cur := #[]) Tryz.underlying23 Tryz.sizeOf9 Tryz.zeroValue9 rfl (by kernel_rfl) (by decide) (by decide)) ?_
      rintro _ _ ⟨a_90, rfl, rfl⟩
      refine ⟨by simp, ?_⟩
      refine JA.two (i := 0) (j := 9) (by kernel_rfl) ?_ ?_
      · skip
        refine JX.op rfl rfl (JO.buildSlice (ps := []) (cur := #[]) Tryz.underlying23 Tryz.sizeOf9 Tryz.zeroValue9 rfl (by kernel_rfl) (by decide) (by decide)) ?_
        rintro _ _ ⟨a_93, rfl, rfl⟩
        refine ⟨by simp, ?_⟩
        refine JA.two (i := 3) (j := 9) (by kernel_rfl) ?_ ?_
        · skip
          refine JX.op rfl rfl (JO.append' 0 (q := r.length) (news := r.map str) (n' := r.length) (cs' := r.map str) rfl Tryz.underlying23 Tryz.underlying23 Tryz.typeInfo9 rfl (by' := 16) rfl rfl rfl rfl rfl (fun w hw => Src.sees (hw.seeOut_ hs_a1 (fun _ _ => List.not_mem_nil)) (oneS _)) (by (try simp only [List.length_append, List.length_cons, List.length_nil, List.length_take, List.length_drop]); omega) (by (try simp only [List.length_append, List.length_cons, List.length_nil, List.length_take, List.length_drop]); omega) (by (try simp only [List.length_take, List.length_drop]); first | rfl | omega) rfl) ?_
          rintro _ _ ⟨a_97, c_98, rfl, rfl⟩
          refine ⟨by simp, ?_⟩
          refine JA.two (i := 7) (j := 9) (by kernel_rfl) ?_ ?_
          · skip
            refine JX.op rfl rfl (JO.append' 1 (q := w.length) (news := w.map str) (n' := w.length) (cs' := w.map str) rfl Tryz.underlying23 Tryz.underlying23 Tryz.typeInfo9 rfl (by' := 16) rfl rfl rfl rfl rfl (fun w hw => Src.sees (hw.seeOut_ hs_a2 (fun _ _ => List.not_mem_nil)) (oneS _)) (by (try simp only [List.length_append, List.length_cons, List.length_nil, List.length_take, List.length_drop]); omega) (by (try simp only [List.length_append, List.length_cons, List.length_nil, List.length_take, List.length_drop]); omega) (by (try simp only [List.length_take, List.length_drop]); first | rfl | omega) rfl) ?_
            rintro _ _ ⟨a_102, c_103, rfl, rfl⟩
            refine ⟨by simp, ?_⟩
            refine JA.takeP 8 rfl (by kernel_rfl) NP.cut (by kernel_rfl) (by kernel_rfl) rfl (PO.build (ps := [(0, .slice a_97 r.length c_98), (1, .slice a_102 w.length c_103)]) (cs := [.slice a_97 r.length c_98, .slice a_102 w.length c_103]) rfl (by kernel_rfl)) ?_
            refine JA.one (i := 9) (by kernel_rfl) ?_
            refine JX.op rfl rfl (JO.alloc (z := .agg #[.slice none 0 0, .slice none 0 0]) (cs := [.slice none 0 0, .slice none 0 0]) Tryz.zeroValue30 rfl) ?_
            rintro _ _ ⟨b_105, rfl, rfl⟩
            refine ⟨by simp, ?_⟩
            refine JA.one (i := 10) (by kernel_rfl) ?_
            refine JX.last rfl rfl (by decide) (by kernel_rfl) (JO.store 0 (vs := [.slice a_97 r.length c_98, .slice a_102 w.length c_103]) (cs' := [.slice a_97 r.length c_98, .slice a_102 w.length c_103]) rfl rfl rfl rfl Tryz.sizeOf30 rfl rfl (Nat.le_of_ble_eq_true rfl) rfl) ?_
            rintro _ _ rfl
            refine JQ.pick [0, 0, 0, 0, 0] (A := [bk b_105 30 [.slice a_97 r.length c_98, .slice a_102 w.length c_103], Res.row (.slice a_97 r.length c_98) 9 1 r.length (r.map str), Res.row (.slice a_102 w.length c_103) 9 1 w.length (w.map str), bk b_3 30 [.slice none 0 0, .slice none 0 0], bk b_2 30 [.slice e1 r'.length f1, .slice e2 w'.length f2]]) rfl ?_
            exact JQ.cut ⟨b_105, a_97, c_98, a_102, c_103, rfl, rfl, rfl, rfl⟩
          · skip
            refine JX.op rfl rfl (JO.alloc (z := .agg #[.slice none 0 0, .slice none 0 0]) (cs := [.slice none 0 0, .slice none 0 0]) Tryz.zeroValue30 rfl) ?_
            rintro _ _ ⟨b_106, rfl, rfl⟩
            refine ⟨by simp, ?_⟩
            refine JA.one (i := 7) (by kernel_rfl) ?_
            refine JX.op rfl rfl (JO.append' 2 (q := w.length) (news := w.map str) (n' := w.length) (cs' := w.map str) rfl Tryz.underlying23 Tryz.underlying23 Tryz.typeInfo9 rfl (by' := 16) rfl rfl rfl rfl rfl (fun w hw => Src.sees (hw.seeOut_ hs_a2 (fun _ _ => List.not_mem_nil)) (oneS _)) (by (try simp only [List.length_append, List.length_cons, List.length_nil, List.length_take, List.length_drop]); omega) (by (try simp only [List.length_append, List.length_cons, List.length_nil, List.length_take, List.length_drop]); omega) (by (try simp only [List.length_take, List.length_drop]); first | rfl | omega) rfl) ?_
            rintro _ _ ⟨a_109, c_110, rfl, rfl⟩
            refine ⟨by simp, ?_⟩
            refine JA.takeP 8 rfl (by kernel_rfl) NP.cut (by kernel_rfl) (by kernel_rfl) rfl (PO.build (ps := [(0, .slice a_97 r.length c_98), (1, .slice a_109 w.length c_110)]) (cs := [.slice a_97 r.length c_98, .slice a_109 w.length c_110]) rfl (by kernel_rfl)) ?_
            refine JA.one (i := 10) (by kernel_rfl) ?_
            refine JX.last rfl rfl (by decide) (by kernel_rfl) (JO.store 0 (vs := [.slice a_97 r.length c_98, .slice a_109 w.length c_110]) (cs' := [.slice a_97 r.length c_98, .slice a_109 w.length c_110]) rfl rfl rfl rfl Tryz.sizeOf30 rfl rfl (Nat.le_of_ble_eq_true rfl) rfl) ?_
            rintro _ _ rfl
            refine JQ.pick [0, 0, 0, 0, 0] (A := [bk b_106 30 [.slice a_97 r.length c_98, .slice a_109 w.length c_110], Res.row (.slice a_97 r.length c_98) 9 1 r.length (r.map str), Res.row (.slice a_109 w.length c_110) 9 1 w.length (w.map str), bk b_3 30 [.slice none 0 0, .slice none 0 0], bk b_2 30 [.slice e1 r'.length f1, .slice e2 w'.length f2]]) rfl ?_
            exact JQ.cut ⟨b_106, a_97, c_98, a_109, c_110, rfl, rfl, rfl, rfl⟩
        · skip
          refine JX.op rfl rfl (JO.alloc (z := .agg #[.slice none 0 0, .slice none 0 0]) (cs := [.slice none 0 0, .slice none 0 0]) Tryz.zeroValue30 rfl) ?_
          rintro _ _ ⟨b_111, rfl, rfl⟩
          refine ⟨by simp, ?_⟩
          refine JA.one (i := 3) (by kernel_rfl) ?_
          refine JX.op rfl rfl (JO.append' 1 (q := r.length) (news := r.map str) (n' := r.length) (cs' := r.map str) rfl Tryz.underlying23 Tryz.underlying23 Tryz.typeInfo9 rfl (by' := 16) rfl rfl rfl rfl rfl (fun w hw => Src.sees (hw.seeOut_ hs_a1 (fun _ _ => List.not_mem_nil)) (oneS _)) (by (try simp only [List.length_append, List.length_cons, List.length_nil, List.length_take, List.length_drop]); omega) (by (try simp only [List.length_append, List.length_cons, List.length_nil, List.length_take, List.length_drop]); omega) (by (try simp only [List.length_take, List.length_drop]); first | rfl | omega) rfl) ?_
          rintro _ _ ⟨a_114, c_115, rfl, rfl⟩
          refine ⟨by simp, ?_⟩
          refine JA.one (i := 7) (by kernel_rfl) ?_
          refine JX.op rfl rfl (JO.append' 2 (q := w.length) (news := w.map str) (n' := w.length) (cs' := w.map str) rfl Tryz.underlying23 Tryz.underlying23 Tryz.typeInfo9 rfl (by' := 16) rfl rfl rfl rfl rfl (fun w hw => Src.sees (hw.seeOut_ hs_a2 (fun _ _ => List.not_mem_nil)) (oneS _)) (by (try simp only [List.length_append, List.length_cons, List.length_nil, List.length_take, List.length_drop]); omega) (by (try simp only [List.length_append, List.length_cons, List.length_nil, List.length_take, List.length_drop]); omega) (by (try simp only [List.length_take, List.length_drop]); first | rfl | omega) rfl) ?_
          rintro _ _ ⟨a_118, c_119, rfl, rfl⟩
          refine ⟨by simp, ?_⟩
          refine JA.takeP 8 rfl (by kernel_rfl) NP.cut (by kernel_rfl) (by kernel_rfl) rfl (PO.build (ps := [(0, .slice a_114 r.length c_115), (1, .slice a_118 w.length c_119)]) (cs := [.slice a_114 r.length c_115, .slice a_118 w.length c_119]) rfl (by kernel_rfl)) ?_
          refine JA.one (i := 10) (by kernel_rfl) ?_
          refine JX.last rfl rfl (by decide) (by kernel_rfl) (JO.store 0 (vs := [.slice a_114 r.length c_115, .slice a_118 w.length c_119]) (cs' := [.slice a_114 r.length c_115, .slice a_118 w.length c_119]) rfl rfl rfl rfl Tryz.sizeOf30 rfl rfl (Nat.le_of_ble_eq_true rfl) rfl) ?_
          rintro _ _ rfl
          refine JQ.pick [0, 0, 0, 0, 0] (A := [bk b_111 30 [.slice a_114 r.length c_115, .slice a_118 w.length c_119], Res.row (.slice a_114 r.length c_115) 9 1 r.length (r.map str), Res.row (.slice a_118 w.length c_119) 9 1 w.length (w.map str), bk b_3 30 [.slice none 0 0, .slice none 0 0], bk b_2 30 [.slice e1 r'.length f1, .slice e2 w'.length f2]]) rfl ?_
          exact JQ.cut ⟨b_111, a_114, c_115, a_118, c_119, rfl, rfl, rfl, rfl⟩
      · skip
        refine JX.op rfl rfl (JO.alloc (z := .agg #[.slice none 0 0, .slice none 0 0]) (cs := [.slice none 0 0, .slice none 0 0]) Tryz.zeroValue30 rfl) ?_
        rintro _ _ ⟨b_120, rfl, rfl⟩
        refine ⟨by simp, ?_⟩
        refine JA.one (i := 0) (by kernel_rfl) ?_
        refine JX.op rfl rfl (JO.buildSlice (ps := []) (cur := #[]) Tryz.underlying23 Tryz.sizeOf9 Tryz.zeroValue9 rfl (by kernel_rfl) (by decide) (by decide)) ?_
        rintro _ _ ⟨a_122, rfl, rfl⟩
        refine ⟨by simp, ?_⟩
        refine JA.one (i := 3) (by kernel_rfl) ?_
        refine JX.op rfl rfl (JO.append' 0 (q := r.length) (news := r.map str) (n' := r.length) (cs' := r.map str) rfl Tryz.underlying23 Tryz.underlying23 Tryz.typeInfo9 rfl (by' := 16) rfl rfl rfl rfl rfl (fun w hw => Src.sees (hw.seeOut_ hs_a1 (fun _ _ => List.not_mem_nil)) (oneS _)) (by (try simp only [List.length_append, List.length_cons, List.length_nil, List.length_take, List.length_drop]); omega) (by (try simp only [List.length_append, List.length_cons, List.length_nil, List.length_take, List.length_drop]); omega) (by (try simp only [List.length_take, List.length_drop]); first | rfl | omega) rfl) ?_
        rintro _ _ ⟨a_125, c_126, rfl, rfl⟩
        refine ⟨by simp, ?_⟩
        refine JA.one (i := 7) (by kernel_rfl) ?_
        refine JX.op rfl rfl (JO.append' 2 (q := w.length) (news := w.map str) (n' := w.length) (cs' := w.map str) rfl Tryz.underlying23 Tryz.underlying23 Tryz.typeInfo9 rfl (by' := 16) rfl rfl rfl rfl rfl (fun w hw => Src.sees (hw.seeOut_ hs_a2 (fun _ _ => List.not_mem_nil)) (oneS _)) (by (try simp only [List.length_append, List.length_cons, List.length_nil, List.length_take, List.length_drop]); omega) (by (try simp only [List.length_append, List.length_cons, List.length_nil, List.length_take, List.length_drop]); omega) (by (try simp only [List.length_take, List.length_drop]); first | rfl | omega) rfl) ?_
        rintro _ _ ⟨a_129, c_130, rfl, rfl⟩
        refine ⟨by simp, ?_⟩
        refine JA.takeP 8 rfl (by kernel_rfl) NP.cut (by kernel_rfl) (by kernel_rfl) rfl (PO.build (ps := [(0, .slice a_125 r.length c_126), (1, .slice a_129 w.length c_130)]) (cs := [.slice a_125 r.length c_126, .slice a_129 w.length c_130]) rfl (by kernel_rfl)) ?_
        refine JA.one (i := 10) (by kernel_rfl) ?_
        refine JX.last rfl rfl (by decide) (by kernel_rfl) (JO.store 1 (vs := [.slice a_125 r.length c_126, .slice a_129 w.length c_130]) (cs' := [.slice a_125 r.length c_126, .slice a_129 w.length c_130]) rfl rfl rfl rfl Tryz.sizeOf30 rfl rfl (Nat.le_of_ble_eq_true rfl) rfl) ?_
        rintro _ _ rfl
        refine JQ.pick [1, 0, 0, 0, 0] (A := [bk b_120 30 [.slice a_125 r.length c_126, .slice a_129 w.length c_130], Res.row (.slice a_125 r.length c_126) 9 1 r.length (r.map str), Res.row (.slice a_129 w.length c_130) 9 1 w.length (w.map str), bk b_3 30 [.slice none 0 0, .slice none 0 0], bk b_2 30 [.slice e1 r'.length f1, .slice e2 w'.length f2]]) rfl ?_
        exact JQ.cut ⟨b_120, a_125, c_126, a_129, c_130, rfl, rfl, rfl, rfl⟩
    · skip
      refine JX.op rfl rfl (JO.alloc (z := .agg #[.slice none 0 0, .slice none 0 0]) (cs := [.slice none 0 0, .slice none 0 0]) Tryz.zeroValue30 rfl) ?_
      rintro _ _ ⟨b_131, rfl, rfl⟩
      refine ⟨by simp, ?_⟩
      refine JA.two (i := 0) (j := 4) (by kernel_rfl) ?_ ?_
      · skip
        refine JX.op rfl rfl (JO.buildSlice (ps := []) (cur := #[]) Tryz.underlying23 Tryz.sizeOf9 Tryz.zeroValue9 rfl (by kernel_rfl) (by decide) (by decide)) ?_
        rintro _ _ ⟨a_134, rfl, rfl⟩
        refine ⟨by simp, ?_⟩
        refine JA.two (i := 3) (j := 4) (by kernel_rfl) ?_ ?_
        · skip
          refine JX.op rfl rfl (JO.append' 0 (q := r.length) (news := r.map str) (n' := r.length) (cs' := r.map str) rfl Tryz.underlying23 Tryz.underlying23 Tryz.typeInfo9 rfl (by' := 16) rfl rfl rfl rfl rfl (fun w hw => Src.sees (hw.seeOut_ hs_a1 (fun _ _ => List.not_mem_nil)) (oneS _)) (by (try simp only [List.length_append, List.length_cons, List.length_nil, List.length_take, List.length_drop]); omega) (by (try simp only [List.length_append, List.length_cons, List.length_nil, List.length_take, List.length_drop]); omega) (by (try simp only [List.length_take, List.length_drop]); first | rfl | omega) rfl) ?_
          rintro _ _ ⟨a_138, c_139, rfl, rfl⟩
          refine ⟨by simp, ?_⟩
          refine JA.one (i := 4) (by kernel_rfl) ?_
          refine JX.op rfl rfl (JO.buildSlice (ps := []) (cur := #[]) Tryz.underlying23 Tryz.sizeOf9 Tryz.zeroValue9 rfl (by kernel_rfl) (by decide) (by decide)) ?_
          rintro _ _ ⟨a_141, rfl, rfl⟩
          refine ⟨by simp, ?_⟩
          refine JA.one (i := 7) (by kernel_rfl) ?_
          refine JX.op rfl rfl (JO.append' 0 (q := w.length) (news := w.map str) (n' := w.length) (cs' := w.map str) rfl Tryz.underlying23 Tryz.underlying23 Tryz.typeInfo9 rfl (by' := 16) rfl rfl rfl rfl rfl (fun w hw => Src.sees (hw.seeOut_ hs_a2 (fun _ _ => List.not_mem_nil)) (oneS _)) (by (try simp only [List.length_append, List.length_cons, List.length_nil, List.length_take, List.length_drop]); omega) (by (try simp only [List.length_append, List.length_cons, List.length_nil, List.length_take, List.length_drop]); omega) (by (try simp only [List.length_take, List.length_drop]); first | rfl | omega) rfl) ?_
          rintro _ _ ⟨a_144, c_145, rfl, rfl⟩
          refine ⟨by simp, ?_⟩
          refine JA.takeP 8 rfl (by kernel_rfl) NP.cut (by kernel_rfl) (by kernel_rfl) rfl (PO.build (ps := [(0, .slice a_138 r.length c_139), (1, .slice a_144 w.length c_145)]) (cs := [.slice a_138 r.length c_139, .slice a_144 w.length c_145]) rfl (by kernel_rfl)) ?_
          refine JA.one (i := 10) (by kernel_rfl) ?_
          refine JX.last rfl rfl (by decide) (by kernel_rfl) (JO.store 2 (vs := [.slice a_138 r.length c_139, .slice a_144 w.length c_145]) (cs' := [.slice a_138 r.length c_139, .slice a_144 w.length c_145]) rfl rfl rfl rfl Tryz.sizeOf30 rfl rfl (Nat.le_of_ble_eq_true rfl) rfl) ?_
          rintro _ _ rfl
          refine JQ.pick [2, 1, 0, 0, 0] (A := [bk b_131 30 [.slice a_138 r.length c_139, .slice a_144 w.length c_145], Res.row (.slice a_138 r.length c_139) 9 1 r.length (r.map str), Res.row (.slice a_144 w.length c_145) 9 1 w.length (w.map str), bk b_3 30 [.slice none 0 0, .slice none 0 0], bk b_2 30 [.slice e1 r'.length f1, .slice e2 w'.length f2]]) rfl ?_
          exact JQ.cut ⟨b_131, a_138, c_139, a_144, c_145, rfl, rfl, rfl, rfl⟩
        · skip
          refine JX.op rfl rfl (JO.buildSlice (ps := []) (cur := #[]) Tryz.underlying23 Tryz.sizeOf9 Tryz.zeroValue9 rfl (by kernel_rfl) (by decide) (by decide)) ?_
          rintro _ _ ⟨a_146, rfl, rfl⟩
          refine ⟨by simp, ?_⟩
          refine JA.one (i := 3) (by kernel_rfl) ?_
          refine JX.op rfl rfl (JO.append' 1 (q := r.length) (news := r.map str) (n' := r.length) (cs' := r.map str) rfl Tryz.underlying23 Tryz.underlying23 Tryz.typeInfo9 rfl (by' := 16) rfl rfl rfl rfl rfl (fun w hw => Src.sees (hw.seeOut_ hs_a1 (fun _ _ => List.not_mem_nil)) (oneS _)) (by (try simp only [List.length_append, List.length_cons, List.length_nil, List.length_take, List.length_drop]); omega) (by (try simp only [List.length_append, List.length_cons, List.length_nil, List.length_take, List.length_drop]); omega) (by (try simp only [List.length_take, List.length_drop]); first | rfl | omega) rfl) ?_
          rintro _ _ ⟨a_149, c_150, rfl, rfl⟩
          refine ⟨by simp, ?_⟩
          refine JA.one (i := 7) (by kernel_rfl) ?_
          refine JX.op rfl rfl (JO.append' 0 (q := w.length) (news := w.map str) (n' := w.length) (cs' := w.map str) rfl Tryz.underlying23 Tryz.underlying23 Tryz.typeInfo9 rfl (by' := 16) rfl rfl rfl rfl rfl (fun w hw => Src.sees (hw.seeOut_ hs_a2 (fun _ _ => List.not_mem_nil)) (oneS _)) (by (try simp only [List.length_append, List.length_cons, List.length_nil, List.length_take, List.length_drop]); omega) (by (try simp only [List.length_append, List.length_cons, List.length_nil, List.length_take, List.length_drop]); omega) (by (try simp only [List.length_take, List.length_drop]); first | rfl | omega) rfl) ?_
          rintro _ _ ⟨a_153, c_154, rfl, rfl⟩
          refine ⟨by simp, ?_⟩
          refine JA.takeP 8 rfl (by kernel_rfl) NP.cut (by kernel_rfl) (by kernel_rfl) rfl (PO.build (ps := [(0, .slice a_149 r.length c_150), (1, .slice a_153 w.length c_154)]) (cs := [.slice a_149 r.length c_150, .slice a_153 w.length c_154]) rfl (by kernel_rfl)) ?_
          refine JA.one (i := 10) (by kernel_rfl) ?_
          refine JX.last rfl rfl (by decide) (by kernel_rfl) (JO.store 2 (vs := [.slice a_149 r.length c_150, .slice a_153 w.length c_154]) (cs' := [.slice a_149 r.length c_150, .slice a_153 w.length c_154]) rfl rfl rfl rfl Tryz.sizeOf30 rfl rfl (Nat.le_of_ble_eq_true rfl) rfl) ?_
          rintro _ _ rfl
          refine JQ.pick [2, 1, 0, 0, 0] (A := [bk b_131 30 [.slice a_149 r.length c_150, .slice a_153 w.length c_154], Res.row (.slice a_149 r.length c_150) 9 1 r.length (r.map str), Res.row (.slice a_153 w.length c_154) 9 1 w.length (w.map str), bk b_3 30 [.slice none 0 0, .slice none 0 0], bk b_2 30 [.slice e1 r'.length f1, .slice e2 w'.length f2]]) rfl ?_
          exact JQ.cut ⟨b_131, a_149, c_150, a_153, c_154, rfl, rfl, rfl, rfl⟩
      · skip
        refine JX.op rfl rfl (JO.buildSlice (ps := []) (cur := #[]) Tryz.underlying23 Tryz.sizeOf9 Tryz.zeroValue9 rfl (by kernel_rfl) (by decide) (by decide)) ?_
        rintro _ _ ⟨a_155, rfl, rfl⟩
        refine ⟨by simp, ?_⟩
        refine JA.one (i := 0) (by kernel_rfl) ?_
        refine JX.op rfl rfl (JO.buildSlice (ps := []) (cur := #[]) Tryz.underlying23 Tryz.sizeOf9 Tryz.zeroValue9 rfl (by kernel_rfl) (by decide) (by decide)) ?_
        rintro _ _ ⟨a_157, rfl, rfl⟩
        refine ⟨by simp, ?_⟩
        refine JA.one (i := 3) (by kernel_rfl) ?_
        refine JX.op rfl rfl (JO.append' 0 (q := r.length) (news := r.map str) (n' := r.length) (cs' := r.map str) rfl Tryz.underlying23 Tryz.underlying23 Tryz.typeInfo9 rfl (by' := 16) rfl rfl rfl rfl rfl (fun w hw => Src.sees (hw.seeOut_ hs_a1 (fun _ _ => List.not_mem_nil)) (oneS _)) (by (try simp only [List.length_append, List.length_cons, List.length_nil, List.length_take, List.length_drop]); omega) (by (try simp only [List.length_append, List.length_cons, List.length_nil, List.length_take, List.length_drop]); omega) (by (try simp only [List.length_take, List.length_drop]); first | rfl | omega) rfl) ?_
        rintro _ _ ⟨a_160, c_161, rfl, rfl⟩
        refine ⟨by simp, ?_⟩
        refine JA.one (i := 7) (by kernel_rfl) ?_
        refine JX.op rfl rfl (JO.append' 1 (q := w.length) (news := w.map str) (n' := w.length) (cs' := w.map str) rfl Tryz.underlying23 Tryz.underlying23 Tryz.typeInfo9 rfl (by' := 16) rfl rfl rfl rfl rfl (fun w hw => Src.sees (hw.seeOut_ hs_a2 (fun _ _ => List.not_mem_nil)) (oneS _)) (by (try simp only [List.length_append, List.length_cons, List.length_nil, List.length_take, List.length_drop]); omega) (by (try simp only [List.length_append, List.length_cons, List.length_nil, List.length_take, List.length_drop]); omega) (by (try simp only [List.length_take, List.length_drop]); first | rfl | omega) rfl) ?_
        rintro _ _ ⟨a_164, c_165, rfl, rfl⟩
        refine ⟨by simp, ?_⟩
        refine JA.takeP 8 rfl (by kernel_rfl) NP.cut (by kernel_rfl) (by kernel_rfl) rfl (PO.build (ps := [(0, .slice a_160 r.length c_161), (1, .slice a_164 w.length c_165)]) (cs := [.slice a_160 r.length c_161, .slice a_164 w.length c_165]) rfl (by kernel_rfl)) ?_
        refine JA.one (i := 10) (by kernel_rfl) ?_
        refine JX.last rfl rfl (by decide) (by kernel_rfl) (JO.store 2 (vs := [.slice a_160 r.length c_161, .slice a_164 w.length c_165]) (cs' := [.slice a_160 r.length c_161, .slice a_164 w.length c_165]) rfl rfl rfl rfl Tryz.sizeOf30 rfl rfl (Nat.le_of_ble_eq_true rfl) rfl) ?_
        rintro _ _ rfl
        refine JQ.pick [2, 0, 0, 0, 0] (A := [bk b_131 30 [.slice a_160 r.length c_161, .slice a_164 w.length c_165], Res.row (.slice a_160 r.length c_161) 9 1 r.length (r.map str), Res.row (.slice a_164 w.length c_165) 9 1 w.length (w.map str), bk b_3 30 [.slice none 0 0, .slice none 0 0], bk b_2 30 [.slice e1 r'.length f1, .slice e2 w'.length f2]]) rfl ?_
        exact JQ.cut ⟨b_131, a_160, c_161, a_164, c_165, rfl, rfl, rfl, rfl⟩
  · skip
    rintro e_166 _ ⟨q, x1, y1, x2, y2, he_167, he_168, he_169, rfl⟩
    refine JQ.seq ?_
    refine JC.seq ?_
    refine JC.seq ?_
    refine JC.region ?_
    refine JL.pure rfl (PO.assign (v := .int .i64 0) rfl) ?_
    refine JL.nil ?_
    refine JQ.seq ?_
    refine JC.block ?_
    refine JC.loop (fun k_ e_ L_ => ∃ j : Nat, ∃ D : List Str, ∃ x1 : Option Addr, ∃ y1 : Nat, (j ≤ r'.length) ∧ (D = (r'.take j).foldl addSpan r) ∧ (D.length ≤ r.length + j) ∧ e_ 3 = .pointer (some ⟨b_2, 0, none⟩) ∧ e_ 4 = .pointer (some ⟨b_3, 0, none⟩) ∧ e_ 5 = .pointer (some ⟨q, 0, none⟩) ∧ e_ 6 = .int .i64 ((j : Nat) : Int) ∧ L_ = [bk q 30 [.slice x1 D.length y1, .slice x2 w.length y2], Res.row (.slice x1 D.length y1) 9 1 D.length (D.map str), Res.row (.slice x2 w.length y2) 9 1 w.length (w.map str), bk b_3 30 [.slice none 0 0, .slice none 0 0], bk b_2 30 [.slice e1 r'.length f1, .slice e2 w'.length f2]] ∧ k_ = r'.length - j) _ ⟨0, r, x1, y1, by omega, rfl, by omega, he_167, he_168, he_169, rfl, rfl, rfl⟩ ?_
    rintro _ e_170 _ ⟨j, D, x1, y1, hj, hD, hl, he_171, he_172, he_173, he_174, rfl, rfl⟩
    refine JC.seq ?_
    refine JC.seq ?_
    refine JC.region ?_
    refine JL.pure rfl (PO.move (v := .int .i64 ((j : Nat) : Int)) he_174) ?_
    refine JL.pure rfl (PO.fieldAddr fo30_0 he_171) ?_
    refine JL.ld rfl (LO.load1 4 (v := .slice e1 r'.length f1) rfl rfl Tryz.isAgg23 rfl) ?_
    refine JL.pure rfl (PO.lenV Tryz.underlying23 rfl) ?_
    refine JL.pure rfl (PO.lss rfl rfl) ?_
    refine JL.nil ?_
    refine JQ.seq ?_
    by_cases h_175 : ((j : Nat) : Int) < ((r'.length : Nat) : Int)
    · skip
      have hlt : j < r'.length := by omega
      refine JC.condT (congrArg Value.bool (decide_eq_true h_175)) ?_
      refine JC.skip ?_
      refine JQ.seq ?_
      refine JC.seq ?_
      refine JC.block ?_
      refine JC.regionA [bk q 30 [.slice x1 D.length y1, .slice x2 w.length y2], Res.row (.slice x1 D.length y1) 9 1 D.length (D.map str), Res.row (.slice x2 w.length y2) 9 1 w.length (w.map str), bk b_3 30 [.slice none 0 0, .slice none 0 0], bk b_2 30 [.slice e1 r'.length f1, .slice e2 w'.length f2]] 8 mixed (by simp) ?_
      refine JA.takeP 0 rfl (by kernel_rfl) (NP.bl (NP.th (NP.th (NP.bl (NP.th NP.body))))) (by kernel_rfl) (by kernel_rfl) rfl (PO.fieldAddr fo30_0 he_173) ?_
      refine JA.take 1 rfl (by kernel_rfl) (NP.bl (NP.th (NP.th (NP.bl (NP.th NP.body))))) (by kernel_rfl) (by kernel_rfl) (by kernel_rfl) rfl (LO.load1 0 (v := .slice x1 D.length y1) rfl rfl Tryz.isAgg23 rfl) ?_
      refine JA.takeP 2 rfl (by kernel_rfl) (NP.bl (NP.th (NP.th (NP.bl (NP.th NP.body))))) (by kernel_rfl) (by kernel_rfl) rfl (PO.fieldAddr fo30_0 he_171) ?_
      refine JA.take 3 rfl (by kernel_rfl) (NP.bl (NP.th (NP.th (NP.bl (NP.th NP.body))))) (by kernel_rfl) (by kernel_rfl) (by kernel_rfl) rfl (LO.load1 4 (v := .slice e1 r'.length f1) rfl rfl Tryz.isAgg23 rfl) ?_
      refine JA.takeP 4 rfl (by kernel_rfl) (NP.bl (NP.th (NP.th (NP.bl (NP.th NP.body))))) (by kernel_rfl) (by kernel_rfl) rfl (PO.move (v := .int .i64 ((j : Nat) : Int)) he_174) ?_
      obtain ⟨hr_176, hr_176b, -⟩ := sees_some hs_e1 (by omega)
      refine JA.takeP 5 rfl (by kernel_rfl) (NP.bl (NP.th (NP.th (NP.bl (NP.th NP.body))))) (by kernel_rfl) (by kernel_rfl) rfl (PO.indexAddrV (i := j) Tryz.underlying23 Tryz.sizeOf9 hr_176 hr_176b rfl rfl (by omega)) ?_
      refine JA.take 6 rfl (by kernel_rfl) (NP.bl (NP.th (NP.th (NP.bl (NP.th NP.body))))) (by kernel_rfl) (by kernel_rfl) (by kernel_rfl) rfl (LO.loadS1 (v := str (r'.getD j [])) hs_e1 (fun _ _ => List.not_mem_nil) rfl Tryz.isAgg9 (atS (by omega))) ?_
      refine JA.one (i := 7) (by kernel_rfl) ?_
      refine JX.op rfl rfl (JO.call [] Tryz.call279 rfl (C_sAddSpan x1 y1 D (r'.getD j []) (by omega)) rfl (fun w hw => hw.see (i := 1) rfl)) ?_
      rintro _ _ ⟨_, ⟨a_179, c_180, rfl, rfl⟩, rfl⟩
      refine ⟨by simp, ?_⟩
      refine JA.takeP 8 rfl (by kernel_rfl) (NP.bl (NP.th (NP.th (NP.bl (NP.th NP.body))))) (by kernel_rfl) (by kernel_rfl) rfl (PO.fieldAddr fo30_0 he_173) ?_
      refine JA.one (i := 9) (by kernel_rfl) ?_
      refine JX.last rfl rfl (by decide) (by kernel_rfl) (JO.store 1 (vs := [.slice a_179 ((addSpan D (r'.getD j [])).length) c_180]) (cs' := [.slice a_179 ((addSpan D (r'.getD j [])).length) c_180, .slice x2 w.length y2]) rfl rfl rfl rfl Tryz.sizeOf23 rfl rfl (Nat.le_of_ble_eq_true rfl) rfl) ?_
      rintro _ _ rfl
      refine JQ.blockN ?_
      refine JQ.seq ?_
      refine JC.region ?_
      refine JL.pure rfl (PO.move (v := .int .i64 ((j : Nat) : Int)) he_174) ?_
      refine JL.pure rfl (PO.add (c := ((j + 1 : Nat) : Int)) rfl rfl (wr (by omega))) ?_
      refine JL.pure rfl (PO.assign (v := .int .i64 ((j + 1 : Nat) : Int)) rfl) ?_
      refine JL.nil ?_
      refine JQ.pick [1, 0, 1, 1, 1] (A := [bk q 30 [.slice a_179 ((addSpan D (r'.getD j [])).length) c_180, .slice x2 w.length y2], Res.row (.slice a_179 ((addSpan D (r'.getD j [])).length) c_180) 9 1 ((addSpan D (r'.getD j [])).length) ((addSpan D (r'.getD j [])).map str), Res.row (.slice x2 w.length y2) 9 1 w.length (w.map str), bk b_3 30 [.slice none 0 0, .slice none 0 0], bk b_2 30 [.slice e1 r'.length f1, .slice e2 w'.length f2]]) rfl ?_
      refine JQ.again (r'.length - (j + 1)) (by omega) ⟨j + 1, (addSpan D (r'.getD j [])), a_179, c_180, by omega, (by rw [take_at (getD_some (d := []) hlt), List.foldl_append, ← hD]; rfl), (by have := addSpan_len D (r'.getD j []); omega), he_171, he_172, he_173, rfl, rfl, rfl⟩
    · skip
      rw [List.take_of_length_le (by omega)] at hD
      have hDr := hD
      have hlr := hl
      refine JC.condF (congrArg Value.bool (decide_eq_false h_175)) ?_
      refine JC.exit ?_
      refine JQ.thenExit ?_
      refine JQ.thenExit ?_
      refine JQ.blockE ?_
      refine JQ.seq ?_
      refine JC.seq ?_
      refine JC.seq ?_
      refine JC.region ?_
      refine JL.pure rfl (PO.assign (v := .int .i64 0) rfl) ?_
      refine JL.nil ?_
      refine JQ.seq ?_
      refine JC.block ?_
      refine JC.loop (fun k_ e_ L_ => ∃ j : Nat, ∃ E : List Str, ∃ x2 : Option Addr, ∃ y2 : Nat, (j ≤ w'.length) ∧ (E = (w'.take j).foldl addSpan w) ∧ (E.length ≤ w.length + j) ∧ e_ 3 = .pointer (some ⟨b_2, 0, none⟩) ∧ e_ 4 = .pointer (some ⟨b_3, 0, none⟩) ∧ e_ 5 = .pointer (some ⟨q, 0, none⟩) ∧ e_ 7 = .int .i64 ((j : Nat) : Int) ∧ L_ = [bk q 30 [.slice x1 D.length y1, .slice x2 E.length y2], Res.row (.slice x1 D.length y1) 9 1 D.length (D.map str), Res.row (.slice x2 E.length y2) 9 1 E.length (E.map str), bk b_3 30 [.slice none 0 0, .slice none 0 0], bk b_2 30 [.slice e1 r'.length f1, .slice e2 w'.length f2]] ∧ k_ = w'.length - j) _ ⟨0, w, x2, y2, by omega, rfl, by omega, he_171, he_172, he_173, rfl, rfl, rfl⟩ ?_
      rintro _ e_181 _ ⟨j, E, x2, y2, hj, hD, hl, he_182, he_183, he_184, he_185, rfl, rfl⟩
      refine JC.seq ?_
      refine JC.seq ?_
      refine JC.region ?_
      refine JL.pure rfl (PO.move (v := .int .i64 ((j : Nat) : Int)) he_185) ?_
      refine JL.pure rfl (PO.fieldAddr fo30_1 he_182) ?_
      refine JL.ld rfl (LO.load1 4 (v := .slice e2 w'.length f2) rfl rfl Tryz.isAgg23 rfl) ?_
      refine JL.pure rfl (PO.lenV Tryz.underlying23 rfl) ?_
      refine JL.pure rfl (PO.lss rfl rfl) ?_
      refine JL.nil ?_
      refine JQ.seq ?_
      by_cases h_186 : ((j : Nat) : Int) < ((w'.length : Nat) : Int)
      · skip
        have hlt : j < w'.length := by omega
        refine JC.condT (congrArg Value.bool (decide_eq_true h_186)) ?_
        refine JC.skip ?_
        refine JQ.seq ?_
        refine JC.seq ?_
        refine JC.block ?_
        refine JC.regionA [bk q 30 [.slice x1 D.length y1, .slice x2 E.length y2], Res.row (.slice x1 D.length y1) 9 1 D.length (D.map str), Res.row (.slice x2 E.length y2) 9 1 E.length (E.map str), bk b_3 30 [.slice none 0 0, .slice none 0 0], bk b_2 30 [.slice e1 r'.length f1, .slice e2 w'.length f2]] 8 mixed (by simp) ?_
        refine JA.takeP 0 rfl (by kernel_rfl) (NP.bl (NP.th (NP.th (NP.bl (NP.th NP.body))))) (by kernel_rfl) (by kernel_rfl) rfl (PO.fieldAddr fo30_1 he_184) ?_
        refine JA.take 1 rfl (by kernel_rfl) (NP.bl (NP.th (NP.th (NP.bl (NP.th NP.body))))) (by kernel_rfl) (by kernel_rfl) (by kernel_rfl) rfl (LO.load1 0 (v := .slice x2 E.length y2) rfl rfl Tryz.isAgg23 rfl) ?_
        refine JA.takeP 2 rfl (by kernel_rfl) (NP.bl (NP.th (NP.th (NP.bl (NP.th NP.body))))) (by kernel_rfl) (by kernel_rfl) rfl (PO.fieldAddr fo30_1 he_182) ?_
        refine JA.take 3 rfl (by kernel_rfl) (NP.bl (NP.th (NP.th (NP.bl (NP.th NP.body))))) (by kernel_rfl) (by kernel_rfl) (by kernel_rfl) rfl (LO.load1 4 (v := .slice e2 w'.length f2) rfl rfl Tryz.isAgg23 rfl) ?_
        refine JA.takeP 4 rfl (by kernel_rfl) (NP.bl (NP.th (NP.th (NP.bl (NP.th NP.body))))) (by kernel_rfl) (by kernel_rfl) rfl (PO.move (v := .int .i64 ((j : Nat) : Int)) he_185) ?_
        obtain ⟨hr_187, hr_187b, -⟩ := sees_some hs_e2 (by omega)
        refine JA.takeP 5 rfl (by kernel_rfl) (NP.bl (NP.th (NP.th (NP.bl (NP.th NP.body))))) (by kernel_rfl) (by kernel_rfl) rfl (PO.indexAddrV (i := j) Tryz.underlying23 Tryz.sizeOf9 hr_187 hr_187b rfl rfl (by omega)) ?_
        refine JA.take 6 rfl (by kernel_rfl) (NP.bl (NP.th (NP.th (NP.bl (NP.th NP.body))))) (by kernel_rfl) (by kernel_rfl) (by kernel_rfl) rfl (LO.loadS1 (v := str (w'.getD j [])) hs_e2 (fun _ _ => List.not_mem_nil) rfl Tryz.isAgg9 (atS (by omega))) ?_
        refine JA.one (i := 7) (by kernel_rfl) ?_
        refine JX.op rfl rfl (JO.call [] Tryz.call279 rfl (C_sAddSpan x2 y2 E (w'.getD j []) (by omega)) rfl (fun w hw => hw.see (i := 2) rfl)) ?_
        rintro _ _ ⟨_, ⟨a_190, c_191, rfl, rfl⟩, rfl⟩
        refine ⟨by simp, ?_⟩
        refine JA.takeP 8 rfl (by kernel_rfl) (NP.bl (NP.th (NP.th (NP.bl (NP.th NP.body))))) (by kernel_rfl) (by kernel_rfl) rfl (PO.fieldAddr fo30_1 he_184) ?_
        refine JA.one (i := 9) (by kernel_rfl) ?_
        refine JX.last rfl rfl (by decide) (by kernel_rfl) (JO.store 1 (vs := [.slice a_190 ((addSpan E (w'.getD j [])).length) c_191]) (cs' := [.slice x1 D.length y1, .slice a_190 ((addSpan E (w'.getD j [])).length) c_191]) rfl rfl rfl rfl Tryz.sizeOf23 rfl rfl (Nat.le_of_ble_eq_true rfl) rfl) ?_
        rintro _ _ rfl
        refine JQ.blockN ?_
        refine JQ.seq ?_
        refine JC.region ?_
        refine JL.pure rfl (PO.move (v := .int .i64 ((j : Nat) : Int)) he_185) ?_
        refine JL.pure rfl (PO.add (c := ((j + 1 : Nat) : Int)) rfl rfl (wr (by omega))) ?_
        refine JL.pure rfl (PO.assign (v := .int .i64 ((j + 1 : Nat) : Int)) rfl) ?_
        refine JL.nil ?_
        refine JQ.pick [1, 1, 0, 1, 1] (A := [bk q 30 [.slice x1 D.length y1, .slice a_190 ((addSpan E (w'.getD j [])).length) c_191], Res.row (.slice x1 D.length y1) 9 1 D.length (D.map str), Res.row (.slice a_190 ((addSpan E (w'.getD j [])).length) c_191) 9 1 ((addSpan E (w'.getD j [])).length) ((addSpan E (w'.getD j [])).map str), bk b_3 30 [.slice none 0 0, .slice none 0 0], bk b_2 30 [.slice e1 r'.length f1, .slice e2 w'.length f2]]) rfl ?_
        refine JQ.again (w'.length - (j + 1)) (by omega) ⟨j + 1, (addSpan E (w'.getD j [])), a_190, c_191, by omega, (by rw [take_at (getD_some (d := []) hlt), List.foldl_append, ← hD]; rfl), (by have := addSpan_len E (w'.getD j []); omega), he_182, he_183, he_184, rfl, rfl, rfl⟩
      · skip
        rw [List.take_of_length_le (by omega)] at hD
        have hDw := hD
        have hlw := hl
        refine JC.condF (congrArg Value.bool (decide_eq_false h_186)) ?_
        refine JC.exit ?_
        refine JQ.thenExit ?_
        refine JQ.thenExit ?_
        refine JQ.blockE ?_
        refine JQ.seq ?_
        refine JC.seq ?_
        refine JC.region ?_
        refine JL.ld rfl (LO.loadK 0 (vs := [.slice x1 D.length y1, .slice x2 E.length y2]) rfl he_184 Tryz.isAgg30 Tryz.sizeOf30 rfl rfl) ?_
        refine JL.op rfl (JO.store 3 (vs := [.slice x1 D.length y1, .slice x2 E.length y2]) (cs' := [.slice x1 D.length y1, .slice x2 E.length y2]) rfl he_183 rfl rfl Tryz.sizeOf30 rfl rfl (Nat.le_of_ble_eq_true rfl) rfl) ?_
        rintro _ _ rfl
        refine JL.nil ?_
        refine JQ.seq ?_
        refine JC.ret ?_
        refine JQ.perm (pick_perm [1, 1] (A := [Res.row (.slice x1 D.length y1) 9 1 D.length (D.map str), Res.row (.slice x2 E.length y2) 9 1 E.length (E.map str)]) (F := [bk q 30 [.slice x1 D.length y1, .slice x2 E.length y2], bk b_3 30 [.slice x1 D.length y1, .slice x2 E.length y2], bk b_2 30 [.slice e1 r'.length f1, .slice e2 w'.length f2]]) rfl).symm ?_
        refine Done.one (.inl rfl) rfl (RV.cell1 (LO.loadK 3 (vs := [.slice x1 D.length y1, .slice x2 E.length y2]) rfl he_183 Tryz.isAgg30 Tryz.sizeOf30 rfl rfl) ⟨_, he_183⟩) (List.sublist_append_left [Res.row (.slice x1 D.length y1) 9 1 D.length (D.map str), Res.row (.slice x2 E.length y2) 9 1 E.length (E.map str)] [bk q 30 [.slice x1 D.length y1, .slice x2 E.length y2], bk b_3 30 [.slice x1 D.length y1, .slice x2 E.length y2], bk b_2 30 [.slice e1 r'.length f1, .slice e2 w'.length f2]]) ?_
        subst hDr
        subst hDw
        exact ⟨_, _, _, _, rfl, rfl⟩

theorem C_copy (a0 a1 a2 : Option Addr) (c0_ c1 c2 : Nat) (m : MS) (h0 : m.s.length ≤ 1000000000) (h1 : m.r.length ≤ 1000000000) (h2 : m.w.length ≤ 1000000000) :
    Ct Tryz.prog 124 [.agg #[.slice a0 m.s.length c0_, .slice a1 m.r.length c1, .slice a2 m.w.length c2]] [] (fun w_ => Sees w_ (.slice a0 m.s.length c0_) 2 m.s.length (m.s.flatMap encC) ∧ Sees w_ (.slice a1 m.r.length c1) 1 m.r.length (m.r.map str) ∧ Sees w_ (.slice a2 m.w.length c2) 1 m.w.length (m.w.map str)) (fun v A' => ∃ x0 y0 x1 y1 x2 y2, v = .agg #[.slice x0 m.s.length y0, .slice x1 m.r.length y1, .slice x2 m.w.length y2] ∧ A' = [Res.row (.slice x0 m.s.length y0) 113 2 m.s.length (m.s.flatMap encC), Res.row (.slice x1 m.r.length y1) 9 1 m.r.length (m.r.map str), Res.row (.slice x2 m.w.length y2) 9 1 m.w.length (m.w.map str)]) := by
  refine Ct.intro Tryz.func124 rfl Tryz.ntmps124 (Nat.le_of_ble_eq_true rfl) fun w0 hpre => ?_
  have hs_a0 : Sees w0 _ _ _ _ := hpre.1
  have hs_a1 : Sees w0 _ _ _ _ := hpre.2.1
  have hs_a2 : Sees w0 _ _ _ _ := hpre.2.2
  refine JC.seq ?_
  refine JC.region ?_
  refine JL.op rfl (JO.box (cs := [.slice a0 m.s.length c0_, .slice a1 m.r.length c1, .slice a2 m.w.length c2]) rfl rfl) ?_
  rintro _ _ ⟨b_1, rfl, rfl⟩
  refine JL.op rfl (JO.alloc (z := .agg #[.slice none 0 0, .slice none 0 0, .slice none 0 0]) (cs := [.slice none 0 0, .slice none 0 0, .slice none 0 0]) Tryz.zeroValue32 rfl) ?_
  rintro _ _ ⟨b_2, rfl, rfl⟩
  refine JL.nil ?_
  refine JQ.seq ?_
  refine JC.seq ?_
  refine JC.regionA [bk b_2 32 [.slice none 0 0, .slice none 0 0, .slice none 0 0], bk b_1 32 [.slice a0 m.s.length c0_, .slice a1 m.r.length c1, .slice a2 m.w.length c2]] 9 mixed (by simp) ?_
  refine JA.takeP 1 rfl (by kernel_rfl) (NP.th NP.body) (by kernel_rfl) (by kernel_rfl) rfl (PO.fieldAddr fo32_0 rfl) ?_
  refine JA.take 2 rfl (by kernel_rfl) (NP.th NP.body) (by kernel_rfl) (by kernel_rfl) (by kernel_rfl) rfl (LO.load1 1 (v := .slice a0 m.s.length c0_) rfl rfl Tryz.isAgg29 rfl) ?_
  refine JA.takeP 4 rfl (by kernel_rfl) (NP.th NP.body) (by kernel_rfl) (by kernel_rfl) rfl (PO.fieldAddr fo32_1 rfl) ?_
  refine JA.take 5 rfl (by kernel_rfl) (NP.th NP.body) (by kernel_rfl) (by kernel_rfl) (by kernel_rfl) rfl (LO.loadK 1 (vs := [.slice a1 m.r.length c1, .slice a2 m.w.length c2]) rfl rfl Tryz.isAgg30 Tryz.sizeOf30 rfl rfl) ?_
  refine JA.takeP 6 rfl (by kernel_rfl) (NP.th NP.body) (by kernel_rfl) (by kernel_rfl) rfl (PO.build (ps := []) (cs := [.slice none 0 0, .slice none 0 0]) rfl (by kernel_rfl)) ?_
  refine JA.one (i := 0) (by kernel_rfl) ?_
  refine JX.op rfl rfl (JO.buildSlice (ps := []) (cur := #[]) Tryz.underlying29 Tryz.sizeOf113 Tryz.zeroValue113 rfl (by kernel_rfl) (by decide) (by decide)) ?_
  rintro _ _ ⟨a_9, rfl, rfl⟩
  refine ⟨by simp, ?_⟩
  refine JA.one (i := 3) (by kernel_rfl) ?_
  refine JX.op rfl rfl (JO.append' 0 (q := m.s.length) (news := m.s.flatMap encC) (n' := m.s.length) (cs' := m.s.flatMap encC) rfl Tryz.underlying29 Tryz.underlying29 Tryz.typeInfo113 rfl (by' := 32) rfl rfl rfl rfl rfl (fun w hw => Src.sees (hw.seeOut_ hs_a0 (fun _ _ => List.not_mem_nil)) (oneC _)) (by (try simp only [List.length_append, List.length_cons, List.length_nil, List.length_take, List.length_drop]); omega) (by (try simp only [List.length_append, List.length_cons, List.length_nil, List.length_take, List.length_drop]); omega) (by (try simp only [List.length_take, List.length_drop]); first | rfl | omega) rfl) ?_
  rintro _ _ ⟨a_12, c_13, rfl, rfl⟩
  refine ⟨by simp, ?_⟩
  refine JA.one (i := 7) (by kernel_rfl) ?_
  refine JX.op rfl rfl (JO.call [] Tryz.call234 rfl (C_joinTouch a1 a2 none none c1 c2 0 0 m.r m.w [] [] (by omega) (by omega) (by (try simp only [List.length_nil]); omega) (by (try simp only [List.length_nil]); omega)) rfl (fun w hw => ⟨hw.seeOut_ hs_a1 (fun _ _ => List.not_mem_nil), hw.seeOut_ hs_a2 (fun _ _ => List.not_mem_nil), sees_nil _, sees_nil _⟩)) ?_
  rintro _ _ ⟨_, ⟨a_18, c_19, a_20, c_21, rfl, rfl⟩, rfl⟩
  refine ⟨by simp, ?_⟩
  refine JA.takeP 8 rfl (by kernel_rfl) (NP.th NP.body) (by kernel_rfl) (by kernel_rfl) rfl (PO.build (ps := [(0, .slice a_12 m.s.length c_13), (1, .agg #[.slice a_18 m.r.length c_19, .slice a_20 m.w.length c_21])]) (cs := [.slice a_12 m.s.length c_13, .slice a_18 m.r.length c_19, .slice a_20 m.w.length c_21]) rfl (by kernel_rfl)) ?_
  refine JA.one (i := 9) (by kernel_rfl) ?_
  refine JX.last rfl rfl (by decide) (by kernel_rfl) (JO.store 3 (vs := [.slice a_12 m.s.length c_13, .slice a_18 m.r.length c_19, .slice a_20 m.w.length c_21]) (cs' := [.slice a_12 m.s.length c_13, .slice a_18 m.r.length c_19, .slice a_20 m.w.length c_21]) rfl rfl rfl rfl Tryz.sizeOf32 rfl rfl (Nat.le_of_ble_eq_true rfl) rfl) ?_
  rintro _ _ rfl
  refine JQ.seq ?_
  refine JC.ret ?_
  refine JQ.perm (pick_perm [2, 0, 0] (A := [Res.row (.slice a_12 m.s.length c_13) 113 2 m.s.length (m.s.flatMap encC), Res.row (.slice a_18 m.r.length c_19) 9 1 m.r.length (m.r.map str), Res.row (.slice a_20 m.w.length c_21) 9 1 m.w.length (m.w.map str)]) (F := [bk b_2 32 [.slice a_12 m.s.length c_13, .slice a_18 m.r.length c_19, .slice a_20 m.w.length c_21], bk b_1 32 [.slice a0 m.s.length c0_, .slice a1 m.r.length c1, .slice a2 m.w.length c2]]) rfl).symm ?_
  refine Done.one (.inl rfl) rfl (RV.cell1 (LO.loadK 3 (vs := [.slice a_12 m.s.length c_13, .slice a_18 m.r.length c_19, .slice a_20 m.w.length c_21]) rfl rfl Tryz.isAgg32 Tryz.sizeOf32 rfl rfl) ⟨_, rfl⟩) (List.sublist_append_left [Res.row (.slice a_12 m.s.length c_13) 113 2 m.s.length (m.s.flatMap encC), Res.row (.slice a_18 m.r.length c_19) 9 1 m.r.length (m.r.map str), Res.row (.slice a_20 m.w.length c_21) 9 1 m.w.length (m.w.map str)] [bk b_2 32 [.slice a_12 m.s.length c_13, .slice a_18 m.r.length c_19, .slice a_20 m.w.length c_21], bk b_1 32 [.slice a0 m.s.length c0_, .slice a1 m.r.length c1, .slice a2 m.w.length c2]]) ?_
  exact ⟨_, _, _, _, _, _, rfl, rfl⟩

theorem C_sLook (a0 a1 a2 : Option Addr) (c0_ c1 c2 : Nat) (m : MS) (key : Str) (h0 : m.s.length ≤ 5000000000) (h1 : m.r.length ≤ 5000000000) (h2 : m.w.length ≤ 5000000000) :
    Ct Tryz.prog 230 [.agg #[.slice a0 m.s.length c0_, .slice a1 m.r.length c1, .slice a2 m.w.length c2], str key] [Res.row (.slice a0 m.s.length c0_) 113 2 m.s.length (m.s.flatMap encC), Res.row (.slice a1 m.r.length c1) 9 1 m.r.length (m.r.map str), Res.row (.slice a2 m.w.length c2) 9 1 m.w.length (m.w.map str)] (fun _ => True) (fun v A' => ∃ x0 y0 x1 y1 x2 y2, v = .tuple #[.agg #[.slice x0 (((m.look key).1).s.length) y0, .slice x1 (((m.look key).1).r.length) y1, .slice x2 (((m.look key).1).w.length) y2], str (m.look key).2] ∧ A' = [Res.row (.slice x0 (((m.look key).1).s.length) y0) 113 2 ((((m.look key).1).s).length) ((((m.look key).1).s).flatMap encC), Res.row (.slice x1 (((m.look key).1).r.length) y1) 9 1 ((((m.look key).1).r).length) ((((m.look key).1).r).map str), Res.row (.slice x2 (((m.look key).1).w.length) y2) 9 1 ((((m.look key).1).w).length) ((((m.look key).1).w).map str)]) := by
  refine Ct.intro Tryz.func230 rfl Tryz.ntmps230 (Nat.le_of_ble_eq_true rfl) fun w0 hpre => ?_
  refine JC.seq ?_
  refine JC.region ?_
  refine JL.op rfl (JO.box (cs := [.slice a0 m.s.length c0_, .slice a1 m.r.length c1, .slice a2 m.w.length c2]) rfl rfl) ?_
  rintro _ _ ⟨b_1, rfl, rfl⟩
  refine JL.op rfl (JO.alloc (z := .agg #[.slice none 0 0, .slice none 0 0, .slice none 0 0]) (cs := [.slice none 0 0, .slice none 0 0, .slice none 0 0]) Tryz.zeroValue32 rfl) ?_
  rintro _ _ ⟨b_2, rfl, rfl⟩
  refine JL.pure rfl (PO.assign (v := str []) rfl) ?_
  refine JL.nil ?_
  refine JQ.seq ?_
  refine JC.seq ?_
  refine JC.region ?_
  refine JL.pure rfl (PO.fieldAddr fo32_1 rfl) ?_
  refine JL.pure rfl (PO.fieldAddr fo30_0 rfl) ?_
  refine JL.ld rfl (LO.load1 1 (v := .slice a1 m.r.length c1) rfl rfl Tryz.isAgg23 rfl) ?_
  refine JL.pure rfl (PO.move (v := str key) rfl) ?_
  refine JL.op rfl (JO.call [] Tryz.call279 rfl (C_sAddSpan a1 c1 m.r key (by omega)) rfl (fun w hw => hw.see (i := 3) rfl)) ?_
  rintro _ _ ⟨_, ⟨a_3, c_4, rfl, rfl⟩, rfl⟩
  refine JL.pure rfl (PO.fieldAddr fo32_1 rfl) ?_
  refine JL.pure rfl (PO.fieldAddr fo30_0 rfl) ?_
  refine JL.op rfl (JO.store 2 (vs := [.slice a_3 ((addSpan m.r key).length) c_4]) (cs' := [.slice a0 m.s.length c0_, .slice a_3 ((addSpan m.r key).length) c_4, .slice a2 m.w.length c2]) rfl rfl rfl rfl Tryz.sizeOf23 rfl rfl (Nat.le_of_ble_eq_true rfl) rfl) ?_
  rintro _ _ rfl
  refine JL.nil ?_
  refine JQ.seq ?_
  refine JC.seq ?_
  refine JC.regionA [Res.row (.slice a_3 ((addSpan m.r key).length) c_4) 9 1 ((addSpan m.r key).length) ((addSpan m.r key).map str), bk b_1 32 [.slice a0 m.s.length c0_, .slice a_3 ((addSpan m.r key).length) c_4, .slice a2 m.w.length c2], Res.row (.slice a0 m.s.length c0_) 113 2 m.s.length (m.s.flatMap encC), Res.row (.slice a1 m.r.length c1) 9 1 m.r.length (m.r.map str), Res.row (.slice a2 m.w.length c2) 9 1 m.w.length (m.w.map str)] 6 mixed (by simp) ?_
  refine JA.take 0 rfl (by kernel_rfl) (NP.th NP.body) (by kernel_rfl) (by kernel_rfl) (by kernel_rfl) rfl (LO.loadK 1 (vs := [.slice a0 m.s.length c0_, .slice a_3 ((addSpan m.r key).length) c_4, .slice a2 m.w.length c2]) rfl rfl Tryz.isAgg32 Tryz.sizeOf32 rfl rfl) ?_
  refine JA.takeP 1 rfl (by kernel_rfl) (NP.th NP.body) (by kernel_rfl) (by kernel_rfl) rfl (PO.fieldAddr fo32_0 rfl) ?_
  refine JA.take 2 rfl (by kernel_rfl) (NP.th NP.body) (by kernel_rfl) (by kernel_rfl) (by kernel_rfl) rfl (LO.load1 1 (v := .slice a0 m.s.length c0_) rfl rfl Tryz.isAgg29 rfl) ?_
  refine JA.takeP 3 rfl (by kernel_rfl) (NP.th NP.body) (by kernel_rfl) (by kernel_rfl) rfl (PO.move (v := str key) rfl) ?_
  refine JA.one (i := 4) (by kernel_rfl) ?_
  refine JX.op rfl rfl (JO.call [] Tryz.call218 rfl (C_sGetKey a0 c0_ m.s key (by omega)) rfl (fun w hw => hw.see (i := 3) rfl)) ?_
  rintro _ _ ⟨_, ⟨rfl, rfl⟩, rfl⟩
  refine ⟨by simp, ?_⟩
  refine JA.one (i := 5) (by kernel_rfl) ?_
  refine JX.op rfl rfl (JO.store 1 (vs := [.slice a0 m.s.length c0_, .slice a_3 ((addSpan m.r key).length) c_4, .slice a2 m.w.length c2]) (cs' := [.slice a0 m.s.length c0_, .slice a_3 ((addSpan m.r key).length) c_4, .slice a2 m.w.length c2]) rfl rfl rfl rfl Tryz.sizeOf32 rfl rfl (Nat.le_of_ble_eq_true rfl) rfl) ?_
  rintro _ _ rfl
  refine ⟨by simp, ?_⟩
  refine JA.takeP 6 rfl (by kernel_rfl) (NP.th NP.body) (by kernel_rfl) (by kernel_rfl) rfl (PO.assign (v := str (getKey m.s key)) rfl) ?_
  refine JA.done (by kernel_rfl) ?_
  refine JQ.seq ?_
  refine JC.ret ?_
  refine JQ.perm (pick_perm [3, 0, 3] (A := [Res.row (.slice a0 m.s.length c0_) 113 2 m.s.length (m.s.flatMap encC), Res.row (.slice a_3 ((addSpan m.r key).length) c_4) 9 1 ((addSpan m.r key).length) ((addSpan m.r key).map str), Res.row (.slice a2 m.w.length c2) 9 1 m.w.length (m.w.map str)]) (F := [bk b_2 32 [.slice a0 m.s.length c0_, .slice a_3 ((addSpan m.r key).length) c_4, .slice a2 m.w.length c2], bk b_1 32 [.slice a0 m.s.length c0_, .slice a_3 ((addSpan m.r key).length) c_4, .slice a2 m.w.length c2], Res.row (.slice a1 m.r.length c1) 9 1 m.r.length (m.r.map str)]) rfl).symm ?_
  refine Done.two (.inl rfl) rfl (RV.cell1 (LO.loadK 3 (vs := [.slice a0 m.s.length c0_, .slice a_3 ((addSpan m.r key).length) c_4, .slice a2 m.w.length c2]) rfl rfl Tryz.isAgg32 Tryz.sizeOf32 rfl rfl) ⟨_, rfl⟩) (RV.tmp (v := str (getKey m.s key)) rfl) (List.sublist_append_left [Res.row (.slice a0 m.s.length c0_) 113 2 m.s.length (m.s.flatMap encC), Res.row (.slice a_3 ((addSpan m.r key).length) c_4) 9 1 ((addSpan m.r key).length) ((addSpan m.r key).map str), Res.row (.slice a2 m.w.length c2) 9 1 m.w.length (m.w.map str)] [bk b_2 32 [.slice a0 m.s.length c0_, .slice a_3 ((addSpan m.r key).length) c_4, .slice a2 m.w.length c2], bk b_1 32 [.slice a0 m.s.length c0_, .slice a_3 ((addSpan m.r key).length) c_4, .slice a2 m.w.length c2], Res.row (.slice a1 m.r.length c1) 9 1 m.r.length (m.r.map str)]) ?_
  exact ⟨_, _, _, _, _, _, rfl, rfl⟩

theorem C_sLay (a0 a1 a2 : Option Addr) (c0_ c1 c2 : Nat) (m : MS) (key val : Str) (h0 : m.s.length ≤ 5000000000) (h1 : m.r.length ≤ 5000000000) (h2 : m.w.length ≤ 5000000000) (hk : key.length ≤ 1000000000000) :
    Ct Tryz.prog 232 [.agg #[.slice a0 m.s.length c0_, .slice a1 m.r.length c1, .slice a2 m.w.length c2], str key, str val] [Res.row (.slice a0 m.s.length c0_) 113 2 m.s.length (m.s.flatMap encC), Res.row (.slice a1 m.r.length c1) 9 1 m.r.length (m.r.map str), Res.row (.slice a2 m.w.length c2) 9 1 m.w.length (m.w.map str)] (fun _ => True) (fun v A' => ∃ x0 y0 x1 y1 x2 y2, v = .agg #[.slice x0 ((m.lay key val).s.length) y0, .slice x1 ((m.lay key val).r.length) y1, .slice x2 ((m.lay key val).w.length) y2] ∧ A' = [Res.row (.slice x0 ((m.lay key val).s.length) y0) 113 2 (((m.lay key val).s).length) (((m.lay key val).s).flatMap encC), Res.row (.slice x1 ((m.lay key val).r.length) y1) 9 1 (((m.lay key val).r).length) (((m.lay key val).r).map str), Res.row (.slice x2 ((m.lay key val).w.length) y2) 9 1 (((m.lay key val).w).length) (((m.lay key val).w).map str)]) := by
  refine Ct.intro Tryz.func232 rfl Tryz.ntmps232 (Nat.le_of_ble_eq_true rfl) fun w0 hpre => ?_
  refine JC.seq ?_
  refine JC.region ?_
  refine JL.op rfl (JO.box (cs := [.slice a0 m.s.length c0_, .slice a1 m.r.length c1, .slice a2 m.w.length c2]) rfl rfl) ?_
  rintro _ _ ⟨b_1, rfl, rfl⟩
  refine JL.op rfl (JO.alloc (z := .agg #[.slice none 0 0, .slice none 0 0, .slice none 0 0]) (cs := [.slice none 0 0, .slice none 0 0, .slice none 0 0]) Tryz.zeroValue32 rfl) ?_
  rintro _ _ ⟨b_2, rfl, rfl⟩
  refine JL.nil ?_
  refine JQ.seq ?_
  refine JC.seq ?_
  refine JC.region ?_
  refine JL.pure rfl (PO.fieldAddr fo32_1 rfl) ?_
  refine JL.pure rfl (PO.fieldAddr fo30_1 rfl) ?_
  refine JL.ld rfl (LO.load1 1 (v := .slice a2 m.w.length c2) rfl rfl Tryz.isAgg23 rfl) ?_
  refine JL.pure rfl (PO.move (v := str key) rfl) ?_
  refine JL.op rfl (JO.call [] Tryz.call279 rfl (C_sAddSpan a2 c2 m.w key (by omega)) rfl (fun w hw => hw.see (i := 4) rfl)) ?_
  rintro _ _ ⟨_, ⟨a_3, c_4, rfl, rfl⟩, rfl⟩
  refine JL.pure rfl (PO.fieldAddr fo32_1 rfl) ?_
  refine JL.pure rfl (PO.fieldAddr fo30_1 rfl) ?_
  refine JL.op rfl (JO.store 2 (vs := [.slice a_3 ((addSpan m.w key).length) c_4]) (cs' := [.slice a0 m.s.length c0_, .slice a1 m.r.length c1, .slice a_3 ((addSpan m.w key).length) c_4]) rfl rfl rfl rfl Tryz.sizeOf23 rfl rfl (Nat.le_of_ble_eq_true rfl) rfl) ?_
  rintro _ _ rfl
  refine JL.nil ?_
  refine JQ.seq ?_
  refine JC.seq ?_
  refine JC.region ?_
  refine JL.pure rfl (PO.fieldAddr fo32_0 rfl) ?_
  refine JL.ld rfl (LO.load1 2 (v := .slice a0 m.s.length c0_) rfl rfl Tryz.isAgg29 rfl) ?_
  refine JL.pure rfl (PO.move (v := str key) rfl) ?_
  refine JL.pure rfl (PO.move (v := str val) rfl) ?_
  refine JL.op rfl (JO.call [] Tryz.call280 rfl (C_sPutKey a0 c0_ m.s key val (by omega) (by omega)) rfl (fun w hw => hw.see (i := 3) rfl)) ?_
  rintro _ _ ⟨_, ⟨a_5, c_6, rfl, rfl⟩, rfl⟩
  refine JL.pure rfl (PO.fieldAddr fo32_0 rfl) ?_
  refine JL.op rfl (JO.store 3 (vs := [.slice a_5 ((putKey m.s key val).length) c_6]) (cs' := [.slice a_5 ((putKey m.s key val).length) c_6, .slice a1 m.r.length c1, .slice a_3 ((addSpan m.w key).length) c_4]) rfl rfl rfl rfl Tryz.sizeOf29 rfl rfl (Nat.le_of_ble_eq_true rfl) rfl) ?_
  rintro _ _ rfl
  refine JL.nil ?_
  refine JQ.seq ?_
  refine JC.seq ?_
  refine JC.region ?_
  refine JL.ld rfl (LO.loadK 3 (vs := [.slice a_5 ((putKey m.s key val).length) c_6, .slice a1 m.r.length c1, .slice a_3 ((addSpan m.w key).length) c_4]) rfl rfl Tryz.isAgg32 Tryz.sizeOf32 rfl rfl) ?_
  refine JL.op rfl (JO.store 2 (vs := [.slice a_5 ((putKey m.s key val).length) c_6, .slice a1 m.r.length c1, .slice a_3 ((addSpan m.w key).length) c_4]) (cs' := [.slice a_5 ((putKey m.s key val).length) c_6, .slice a1 m.r.length c1, .slice a_3 ((addSpan m.w key).length) c_4]) rfl rfl rfl rfl Tryz.sizeOf32 rfl rfl (Nat.le_of_ble_eq_true rfl) rfl) ?_
  rintro _ _ rfl
  refine JL.nil ?_
  refine JQ.seq ?_
  refine JC.ret ?_
  refine JQ.perm (pick_perm [0, 4, 0] (A := [Res.row (.slice a_5 ((putKey m.s key val).length) c_6) 113 2 ((putKey m.s key val).length) ((putKey m.s key val).flatMap encC), Res.row (.slice a1 m.r.length c1) 9 1 m.r.length (m.r.map str), Res.row (.slice a_3 ((addSpan m.w key).length) c_4) 9 1 ((addSpan m.w key).length) ((addSpan m.w key).map str)]) (F := [bk b_2 32 [.slice a_5 ((putKey m.s key val).length) c_6, .slice a1 m.r.length c1, .slice a_3 ((addSpan m.w key).length) c_4], bk b_1 32 [.slice a_5 ((putKey m.s key val).length) c_6, .slice a1 m.r.length c1, .slice a_3 ((addSpan m.w key).length) c_4], Res.row (.slice a0 m.s.length c0_) 113 2 m.s.length (m.s.flatMap encC), Res.row (.slice a2 m.w.length c2) 9 1 m.w.length (m.w.map str)]) rfl).symm ?_
  refine Done.one (.inl rfl) rfl (RV.cell1 (LO.loadK 3 (vs := [.slice a_5 ((putKey m.s key val).length) c_6, .slice a1 m.r.length c1, .slice a_3 ((addSpan m.w key).length) c_4]) rfl rfl Tryz.isAgg32 Tryz.sizeOf32 rfl rfl) ⟨_, rfl⟩) (List.sublist_append_left [Res.row (.slice a_5 ((putKey m.s key val).length) c_6) 113 2 ((putKey m.s key val).length) ((putKey m.s key val).flatMap encC), Res.row (.slice a1 m.r.length c1) 9 1 m.r.length (m.r.map str), Res.row (.slice a_3 ((addSpan m.w key).length) c_4) 9 1 ((addSpan m.w key).length) ((addSpan m.w key).map str)] [bk b_2 32 [.slice a_5 ((putKey m.s key val).length) c_6, .slice a1 m.r.length c1, .slice a_3 ((addSpan m.w key).length) c_4], bk b_1 32 [.slice a_5 ((putKey m.s key val).length) c_6, .slice a1 m.r.length c1, .slice a_3 ((addSpan m.w key).length) c_4], Res.row (.slice a0 m.s.length c0_) 113 2 m.s.length (m.s.flatMap encC), Res.row (.slice a2 m.w.length c2) 9 1 m.w.length (m.w.map str)]) ?_
  exact ⟨_, _, _, _, _, _, rfl, rfl⟩

theorem C_sBump (a0 a1 a2 : Option Addr) (c0_ c1 c2 : Nat) (m : MS) (key : Str) (h0 : m.s.length ≤ 2000000000) (h1 : m.r.length ≤ 2000000000) (h2 : m.w.length ≤ 2000000000) (hv : (getKey m.s key).length ≤ 281474976710656) (hk : key.length ≤ 1000000000000) :
    Ct Tryz.prog 255 [.agg #[.slice a0 m.s.length c0_, .slice a1 m.r.length c1, .slice a2 m.w.length c2], str key] [Res.row (.slice a0 m.s.length c0_) 113 2 m.s.length (m.s.flatMap encC), Res.row (.slice a1 m.r.length c1) 9 1 m.r.length (m.r.map str), Res.row (.slice a2 m.w.length c2) 9 1 m.w.length (m.w.map str)] (fun _ => True) (fun v A' => ∃ x0 y0 x1 y1 x2 y2, v = .tuple #[.agg #[.slice x0 (((m.bump key).1).s.length) y0, .slice x1 (((m.bump key).1).r.length) y1, .slice x2 (((m.bump key).1).w.length) y2], .int .i64 (m.bump key).2] ∧ A' = [Res.row (.slice x0 (((m.bump key).1).s.length) y0) 113 2 ((((m.bump key).1).s).length) ((((m.bump key).1).s).flatMap encC), Res.row (.slice x1 (((m.bump key).1).r.length) y1) 9 1 ((((m.bump key).1).r).length) ((((m.bump key).1).r).map str), Res.row (.slice x2 (((m.bump key).1).w.length) y2) 9 1 ((((m.bump key).1).w).length) ((((m.bump key).1).w).map str)]) := by
  refine Ct.intro Tryz.func255 rfl Tryz.ntmps255 (Nat.le_of_ble_eq_true rfl) fun w0 hpre => ?_
  refine JC.seq ?_
  refine JC.region ?_
  refine JL.op rfl (JO.box (cs := [.slice a0 m.s.length c0_, .slice a1 m.r.length c1, .slice a2 m.w.length c2]) rfl rfl) ?_
  rintro _ _ ⟨b_1, rfl, rfl⟩
  refine JL.op rfl (JO.alloc (z := .agg #[.slice none 0 0, .slice none 0 0, .slice none 0 0]) (cs := [.slice none 0 0, .slice none 0 0, .slice none 0 0]) Tryz.zeroValue32 rfl) ?_
  rintro _ _ ⟨b_2, rfl, rfl⟩
  refine JL.pure rfl (PO.assign (v := .int .i64 0) rfl) ?_
  refine JL.nil ?_
  refine JQ.seq ?_
  refine JC.seq ?_
  refine JC.region ?_
  refine JL.ld rfl (LO.loadK 1 (vs := [.slice a0 m.s.length c0_, .slice a1 m.r.length c1, .slice a2 m.w.length c2]) rfl rfl Tryz.isAgg32 Tryz.sizeOf32 rfl rfl) ?_
  refine JL.pure rfl (PO.move (v := str key) rfl) ?_
  refine JL.op rfl (JO.call [2, 2, 2] Tryz.call230 rfl (C_sLook a0 a1 a2 c0_ c1 c2 m key (by omega) (by omega) (by omega)) rfl (fun _ _ => trivial)) ?_
  rintro _ _ ⟨_, ⟨a_3, c_4, a_5, c_6, a_7, c_8, rfl, rfl⟩, rfl⟩
  have hlk8 := look_len m key
  refine JL.pure rfl (PO.move (v := .tuple #[.agg #[.slice a_3 (((MS.look m key).1).s.length) c_4, .slice a_5 (((MS.look m key).1).r.length) c_6, .slice a_7 (((MS.look m key).1).w.length) c_8], str ((MS.look m key).2)]) rfl) ?_
  refine JL.pure rfl (PO.extract (v := .agg #[.slice a_3 (((MS.look m key).1).s.length) c_4, .slice a_5 (((MS.look m key).1).r.length) c_6, .slice a_7 (((MS.look m key).1).w.length) c_8]) rfl rfl) ?_
  refine JL.pure rfl (PO.extract (v := str ((MS.look m key).2)) rfl rfl) ?_
  refine JL.op rfl (JO.store 4 (vs := [.slice a_3 (((MS.look m key).1).s.length) c_4, .slice a_5 (((MS.look m key).1).r.length) c_6, .slice a_7 (((MS.look m key).1).w.length) c_8]) (cs' := [.slice a_3 (((MS.look m key).1).s.length) c_4, .slice a_5 (((MS.look m key).1).r.length) c_6, .slice a_7 (((MS.look m key).1).w.length) c_8]) rfl rfl rfl rfl Tryz.sizeOf32 rfl rfl (Nat.le_of_ble_eq_true rfl) rfl) ?_
  rintro _ _ rfl
  refine JL.pure rfl (PO.assign (v := str ((MS.look m key).2)) rfl) ?_
  refine JL.nil ?_
  refine JQ.seq ?_
  refine JC.seq ?_
  refine JC.region ?_
  refine JL.pure rfl (PO.move (v := str ((MS.look m key).2)) rfl) ?_
  refine JL.op rfl (JO.call [] Tryz.call217 rfl (C_sNumOf ((MS.look m key).2) hv) rfl (fun _ _ => trivial)) ?_
  rintro _ _ ⟨_, ⟨rfl, rfl⟩, rfl⟩
  have hno8 := numOf_lo ((MS.look m key).2)
  refine JL.pure rfl (PO.add (c := (numOf ((MS.look m key).2)) + 1) rfl rfl (wr (by omega))) ?_
  refine JL.pure rfl (PO.assign (v := .int .i64 ((numOf ((MS.look m key).2)) + 1)) rfl) ?_
  refine JL.nil ?_
  refine JQ.seq ?_
  refine JC.seq ?_
  refine JC.seq ?_
  refine JC.region ?_
  refine JL.pure rfl (PO.move (v := .int .i64 ((numOf ((MS.look m key).2)) + 1)) rfl) ?_
  refine JL.pure rfl (PO.gtr rfl rfl) ?_
  refine JL.nil ?_
  refine JQ.seq ?_
  by_cases h_9 : 999 < ((numOf ((MS.look m key).2)) + 1)
  · skip
    refine JC.condT (congrArg Value.bool (decide_eq_true h_9)) ?_
    refine JC.seq ?_
    refine JC.region ?_
    refine JL.ld rfl (LO.loadK 4 (vs := [.slice a_3 (((MS.look m key).1).s.length) c_4, .slice a_5 (((MS.look m key).1).r.length) c_6, .slice a_7 (((MS.look m key).1).w.length) c_8]) rfl rfl Tryz.isAgg32 Tryz.sizeOf32 rfl rfl) ?_
    refine JL.op rfl (JO.store 3 (vs := [.slice a_3 (((MS.look m key).1).s.length) c_4, .slice a_5 (((MS.look m key).1).r.length) c_6, .slice a_7 (((MS.look m key).1).w.length) c_8]) (cs' := [.slice a_3 (((MS.look m key).1).s.length) c_4, .slice a_5 (((MS.look m key).1).r.length) c_6, .slice a_7 (((MS.look m key).1).w.length) c_8]) rfl rfl rfl rfl Tryz.sizeOf32 rfl rfl (Nat.le_of_ble_eq_true rfl) rfl) ?_
    rintro _ _ rfl
    refine JL.pure rfl (PO.assign (v := .int .i64 0) rfl) ?_
    refine JL.nil ?_
    refine JQ.seq ?_
    refine JC.ret ?_
    refine JQ.thenRet ?_
    refine Done.two (.inl rfl) rfl (RV.cell1 (LO.loadK 3 (vs := [.slice a_3 (((MS.look m key).1).s.length) c_4, .slice a_5 (((MS.look m key).1).r.length) c_6, .slice a_7 (((MS.look m key).1).w.length) c_8]) rfl rfl Tryz.isAgg32 Tryz.sizeOf32 rfl rfl) ⟨_, rfl⟩) (RV.tmp (v := .int .i64 0) rfl) (List.sublist_append_left [Res.row (.slice a_3 (((MS.look m key).1).s.length) c_4) 113 2 ((((MS.look m key).1).s).length) ((((MS.look m key).1).s).flatMap encC), Res.row (.slice a_5 (((MS.look m key).1).r.length) c_6) 9 1 ((((MS.look m key).1).r).length) ((((MS.look m key).1).r).map str), Res.row (.slice a_7 (((MS.look m key).1).w.length) c_8) 9 1 ((((MS.look m key).1).w).length) ((((MS.look m key).1).w).map str)] [bk b_2 32 [.slice a_3 (((MS.look m key).1).s.length) c_4, .slice a_5 (((MS.look m key).1).r.length) c_6, .slice a_7 (((MS.look m key).1).w.length) c_8], bk b_1 32 [.slice a_3 (((MS.look m key).1).s.length) c_4, .slice a_5 (((MS.look m key).1).r.length) c_6, .slice a_7 (((MS.look m key).1).w.length) c_8]]) ?_
    have hq : (m.num key).2 = numOf (m.look key).2 := rfl
    have hb : m.bump key = ((m.num key).1, 0) := by unfold MS.bump; rw [if_pos (by omega)]
    rw [hb]
    exact ⟨_, _, _, _, _, _, rfl, rfl⟩
  · skip
    refine JC.condF (congrArg Value.bool (decide_eq_false h_9)) ?_
    refine JC.skip ?_
    refine JQ.seq ?_
    refine JC.seq ?_
    refine JC.regionA [bk b_1 32 [.slice a_3 (((MS.look m key).1).s.length) c_4, .slice a_5 (((MS.look m key).1).r.length) c_6, .slice a_7 (((MS.look m key).1).w.length) c_8]] 6 mixed (by simp) ?_
    refine JA.take 0 rfl (by kernel_rfl) (NP.th NP.body) (by kernel_rfl) (by kernel_rfl) (by kernel_rfl) rfl (LO.loadK 0 (vs := [.slice a_3 (((MS.look m key).1).s.length) c_4, .slice a_5 (((MS.look m key).1).r.length) c_6, .slice a_7 (((MS.look m key).1).w.length) c_8]) rfl rfl Tryz.isAgg32 Tryz.sizeOf32 rfl rfl) ?_
    refine JA.takeP 1 rfl (by kernel_rfl) (NP.th NP.body) (by kernel_rfl) (by kernel_rfl) rfl (PO.move (v := str key) rfl) ?_
    refine JA.takeP 2 rfl (by kernel_rfl) (NP.th NP.body) (by kernel_rfl) (by kernel_rfl) rfl (PO.move (v := .int .i64 ((numOf ((MS.look m key).2)) + 1)) rfl) ?_
    refine JA.takeP 5 rfl (by kernel_rfl) (NP.th NP.body) (by kernel_rfl) (by kernel_rfl) rfl (PO.move (v := .int .i64 ((numOf ((MS.look m key).2)) + 1)) rfl) ?_
    refine JA.one (i := 3) (by kernel_rfl) ?_
    refine JX.op rfl rfl (JO.call [] Tryz.call276 rfl (C_sDec ((numOf ((MS.look m key).2)) + 1) (by omega) (by omega)) rfl (fun _ _ => trivial)) ?_
    rintro _ _ ⟨_, ⟨rfl, rfl⟩, rfl⟩
    refine ⟨by simp, ?_⟩
    refine JA.one (i := 4) (by kernel_rfl) ?_
    refine JX.op rfl rfl (JO.call [0, 0, 0] Tryz.call232 rfl (C_sLay a_3 a_5 a_7 c_4 c_6 c_8 ((MS.look m key).1) key (dec ((numOf ((MS.look m key).2)) + 1)) (by omega) (by omega) (by omega) (by omega)) rfl (fun _ _ => trivial)) ?_
    rintro _ _ ⟨_, ⟨a_16, c_17, a_18, c_19, a_20, c_21, rfl, rfl⟩, rfl⟩
    have hly21 := lay_len ((MS.look m key).1) key (dec ((numOf ((MS.look m key).2)) + 1))
    refine ⟨by simp, ?_⟩
    refine JA.one (i := 6) (by kernel_rfl) ?_
    refine JX.late rfl rfl (by decide) (by kernel_rfl) (JO.store 3 (vs := [.slice a_16 ((MS.lay ((MS.look m key).1) key (dec ((numOf ((MS.look m key).2)) + 1))).s.length) c_17, .slice a_18 ((MS.lay ((MS.look m key).1) key (dec ((numOf ((MS.look m key).2)) + 1))).r.length) c_19, .slice a_20 ((MS.lay ((MS.look m key).1) key (dec ((numOf ((MS.look m key).2)) + 1))).w.length) c_21]) (cs' := [.slice a_16 ((MS.lay ((MS.look m key).1) key (dec ((numOf ((MS.look m key).2)) + 1))).s.length) c_17, .slice a_18 ((MS.lay ((MS.look m key).1) key (dec ((numOf ((MS.look m key).2)) + 1))).r.length) c_19, .slice a_20 ((MS.lay ((MS.look m key).1) key (dec ((numOf ((MS.look m key).2)) + 1))).w.length) c_21]) rfl rfl rfl rfl Tryz.sizeOf32 rfl rfl (Nat.le_of_ble_eq_true rfl) rfl) ?_
    rintro _ _ rfl
    refine JA.takeP 7 rfl (by kernel_rfl) (NP.th NP.body) (by kernel_rfl) (by kernel_rfl) rfl (PO.assign (v := .int .i64 ((numOf ((MS.look m key).2)) + 1)) rfl) ?_
    refine JA.done (by kernel_rfl) ?_
    refine JQ.seq ?_
    refine JC.ret ?_
    refine Done.two (.inl rfl) rfl (RV.cell1 (LO.loadK 3 (vs := [.slice a_16 ((MS.lay ((MS.look m key).1) key (dec ((numOf ((MS.look m key).2)) + 1))).s.length) c_17, .slice a_18 ((MS.lay ((MS.look m key).1) key (dec ((numOf ((MS.look m key).2)) + 1))).r.length) c_19, .slice a_20 ((MS.lay ((MS.look m key).1) key (dec ((numOf ((MS.look m key).2)) + 1))).w.length) c_21]) rfl rfl Tryz.isAgg32 Tryz.sizeOf32 rfl rfl) ⟨_, rfl⟩) (RV.tmp (v := .int .i64 ((numOf ((MS.look m key).2)) + 1)) rfl) (List.sublist_append_left [Res.row (.slice a_16 ((MS.lay ((MS.look m key).1) key (dec ((numOf ((MS.look m key).2)) + 1))).s.length) c_17) 113 2 (((MS.lay ((MS.look m key).1) key (dec ((numOf ((MS.look m key).2)) + 1))).s).length) (((MS.lay ((MS.look m key).1) key (dec ((numOf ((MS.look m key).2)) + 1))).s).flatMap encC), Res.row (.slice a_18 ((MS.lay ((MS.look m key).1) key (dec ((numOf ((MS.look m key).2)) + 1))).r.length) c_19) 9 1 (((MS.lay ((MS.look m key).1) key (dec ((numOf ((MS.look m key).2)) + 1))).r).length) (((MS.lay ((MS.look m key).1) key (dec ((numOf ((MS.look m key).2)) + 1))).r).map str), Res.row (.slice a_20 ((MS.lay ((MS.look m key).1) key (dec ((numOf ((MS.look m key).2)) + 1))).w.length) c_21) 9 1 (((MS.lay ((MS.look m key).1) key (dec ((numOf ((MS.look m key).2)) + 1))).w).length) (((MS.lay ((MS.look m key).1) key (dec ((numOf ((MS.look m key).2)) + 1))).w).map str)] [bk b_2 32 [.slice a_16 ((MS.lay ((MS.look m key).1) key (dec ((numOf ((MS.look m key).2)) + 1))).s.length) c_17, .slice a_18 ((MS.lay ((MS.look m key).1) key (dec ((numOf ((MS.look m key).2)) + 1))).r.length) c_19, .slice a_20 ((MS.lay ((MS.look m key).1) key (dec ((numOf ((MS.look m key).2)) + 1))).w.length) c_21], bk b_1 32 [.slice a_3 (((MS.look m key).1).s.length) c_4, .slice a_5 (((MS.look m key).1).r.length) c_6, .slice a_7 (((MS.look m key).1).w.length) c_8]]) ?_
    have hq : (m.num key).2 = numOf (m.look key).2 := rfl
    have hb : m.bump key = ((m.look key).1.lay key (dec (numOf (m.look key).2 + 1)), numOf (m.look key).2 + 1) := by unfold MS.bump; rw [if_neg (by omega)]; unfold MS.setNum; rw [if_pos (by omega)]; rfl
    rw [hb]
    exact ⟨_, _, _, _, _, _, rfl, rfl⟩

end Go.Proofs.YtenfajgpdhgknaaGreatDoor
