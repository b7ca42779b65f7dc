/-
  Texts of the walk, joined: what each one proves stands at its theorems.
-/
import Derived.Test.YtenfajgpdhgknaaGreatDoorDatD
set_option linter.unusedSimpArgs false
set_option linter.unusedVariables false
set_option linter.unnecessarySimpa false
namespace Go.Proofs.YtenfajgpdhgknaaGreatDoor
open Go Go.RowKit
attribute [local irreducible] JL JC JQ JO LO PO JA JX Ct

theorem N_begins (s : Str) (p : Str) (hs : s.length ≤ 1000000000000) (hp : p.length ≤ 1000000000000) :
    Ct Tryz.prog 153 [str s, str p] ([]) (fun _ => True) (fun v A' => ∃ r0, prefixB s p = r0 ∧ v = .bool r0 ∧ A' = []) := by
  refine Ct.intro Tryz.func153 rfl Tryz.ntmps153 (Nat.le_of_ble_eq_true rfl) fun w0 hpre => ?_
  refine JC.seq ?_
  refine JC.region ?_
  refine JL.pure rfl (PO.assign (v := .bool false) rfl) ?_
  refine JL.nil ?_
  refine JQ.seq ?_
  refine JC.seq ?_
  refine JC.region ?_
  refine JL.pure rfl (PO.move (v := str s) rfl) ?_
  refine JL.pure rfl (PO.lenS Tryz.underlying9 rfl) ?_
  refine JL.pure rfl (PO.move (v := str p) rfl) ?_
  refine JL.pure rfl (PO.lenS Tryz.underlying9 rfl) ?_
  refine JL.pure rfl (PO.geq rfl rfl) ?_
  refine JL.pure rfl (PO.move (v := .bool (decide ((p.length : Int) ≤ (s.length : Int)))) rfl) ?_
  by_cases h_1 : (p.length : Int) ≤ (s.length : Int)
  · skip
    refine JL.guardOn rfl rfl rfl (congrArg Value.bool (decide_eq_true h_1)) (JO.ofLO (LO.pure (PO.move (v := str s) rfl))) ?_
    rintro _ _ ⟨rfl, rfl⟩
    refine JL.guardOn rfl rfl rfl (congrArg Value.bool (decide_eq_true h_1)) (JO.ofLO (LO.pure (PO.move (v := str p) rfl))) ?_
    rintro _ _ ⟨rfl, rfl⟩
    refine JL.guardOn rfl rfl rfl (congrArg Value.bool (decide_eq_true h_1)) (JO.ofLO (LO.pure (PO.lenS Tryz.underlying9 rfl))) ?_
    rintro _ _ ⟨rfl, rfl⟩
    refine JL.guardOn rfl rfl rfl (congrArg Value.bool (decide_eq_true h_1)) (JO.ofLO (LO.pure (PO.sliceSh (j := p.length) Tryz.underlying9 rfl rfl (by omega)))) ?_
    rintro _ _ ⟨rfl, rfl⟩
    refine JL.guardOn rfl rfl rfl (congrArg Value.bool (decide_eq_true h_1)) (JO.ofLO (LO.pure (PO.move (v := str p) rfl))) ?_
    rintro _ _ ⟨rfl, rfl⟩
    refine JL.guardOn rfl rfl rfl (congrArg Value.bool (decide_eq_true h_1)) (JO.ofLO (LO.pure (PO.eqlS rfl rfl))) ?_
    rintro _ _ ⟨rfl, rfl⟩
    refine JL.pure rfl (PO.pickT (v := .bool (decide ((s.take p.length) = p))) (congrArg Value.bool (decide_eq_true h_1)) rfl) ?_
    refine JL.pure rfl (PO.assign (v := .bool (decide ((s.take p.length) = p))) rfl) ?_
    refine JL.nil ?_
    refine JQ.seq ?_
    refine JC.ret ?_
    refine Done.one (.inl rfl) rfl (RV.tmp (v := .bool (decide ((s.take p.length) = p))) rfl) (List.nil_sublist _) ?_
    exact ⟨(decide ((s.take p.length) = p)), (by rw [begins_eq]; first | (simp_all; done) | (simp_all; intros; omega)), rfl, rfl⟩
  · skip
    refine JL.guardOff (b := false) rfl rfl rfl (congrArg Value.bool (decide_eq_false h_1)) ?_
    refine JL.guardOff (b := false) rfl rfl rfl (congrArg Value.bool (decide_eq_false h_1)) ?_
    refine JL.guardOff (b := false) rfl rfl rfl (congrArg Value.bool (decide_eq_false h_1)) ?_
    refine JL.guardOff (b := false) rfl rfl rfl (congrArg Value.bool (decide_eq_false h_1)) ?_
    refine JL.guardOff (b := false) rfl rfl rfl (congrArg Value.bool (decide_eq_false h_1)) ?_
    refine JL.guardOff (b := false) rfl rfl rfl (congrArg Value.bool (decide_eq_false h_1)) ?_
    refine JL.pure rfl (PO.pickF (v := .bool false) (congrArg Value.bool (decide_eq_false h_1)) rfl) ?_
    refine JL.pure rfl (PO.assign (v := .bool false) rfl) ?_
    refine JL.nil ?_
    refine JQ.seq ?_
    refine JC.ret ?_
    refine Done.one (.inl rfl) rfl (RV.tmp (v := .bool false) rfl) (List.nil_sublist _) ?_
    exact ⟨false, (by rw [begins_eq]; first | (simp_all; done) | (simp_all; intros; omega)), rfl, rfl⟩

theorem N_ikeysUnder (sa : Option Addr) (sc : Nat) (s : List Cell) (p : Str) (hs : s.length ≤ 1000000000) (hp : p.length ≤ 1000000000) :
    Ct Tryz.prog 284 [.slice sa s.length sc, str p] ([]) (fun w => Sees w (.slice sa s.length sc) 2 s.length (s.flatMap encC)) (fun v A' => ∃ r0a r0c r0, keysUnder s p = r0 ∧ r0.length ≤ s.length ∧ v = .slice r0a r0.length r0c ∧ A' = [rS r0a r0c r0]) := by
  refine Ct.intro Tryz.func284 rfl Tryz.ntmps284 (Nat.le_of_ble_eq_true rfl) fun w0 hpre => ?_
  have hs_sa : Sees w0 _ _ _ _ := hpre
  refine JC.seq ?_
  refine JC.region ?_
  refine JL.pure rfl (PO.assign (v := .slice none 0 0) rfl) ?_
  refine JL.nil ?_
  refine JQ.seq ?_
  refine JC.seq ?_
  refine JC.region ?_
  refine JL.pure rfl (PO.assign (v := .slice none 0 0) rfl) ?_
  refine JL.nil ?_
  refine JQ.seq ?_
  refine JC.seq ?_
  refine JC.seq ?_
  refine JC.region ?_
  refine JL.pure rfl (PO.move (v := .slice sa s.length sc) rfl) ?_
  refine JL.pure rfl (PO.lenV Tryz.underlying29 rfl) ?_
  refine JL.pure rfl (PO.move (v := .int .i64 0) rfl) ?_
  refine JL.nil ?_
  refine JQ.seq ?_
  refine JC.block ?_
  refine JC.nilRow 9 1 ?_
  refine JC.loop (fun k_ e_ L_ => ∃ j : Nat, ∃ out_a : Option Addr, ∃ out_c : Nat, ∃ out_ : List Str, (j ≤ s.length) ∧ (out_.length ≤ j) ∧ (underL p (s.drop j) out_ = underL p s ([] : List Str)) ∧ e_ 1 = str p ∧ e_ 4 = .slice none 0 0 ∧ e_ 5 = .slice out_a out_.length out_c ∧ e_ 8 = .slice sa s.length sc ∧ e_ 9 = .int .i64 ((s.length : Nat) : Int) ∧ e_ 10 = .int .i64 ((j : Nat) : Int) ∧ L_ = [rS out_a out_c out_] ∧ k_ = s.length - j) _ ⟨0, none, 0, ([] : List Str), by omega, (by first | omega | (simp only [List.length_append, List.length_cons, List.length_nil, List.length_take, List.length_drop]; omega)), rfl, rfl, rfl, rfl, rfl, rfl, rfl, rfl, rfl⟩ ?_
  rintro _ e_1 _ ⟨j, out_a, out_c, out_, hj, ho, hR, he_2, he_3, he_4, he_5, he_6, he_7, rfl, rfl⟩
  refine JC.seq ?_
  refine JC.region ?_
  refine JL.pure rfl (PO.lss he_7 he_6) ?_
  refine JL.nil ?_
  refine JQ.seq ?_
  refine JC.seq ?_
  by_cases h_8 : ((j : Nat) : Int) < ((s.length : Nat) : Int)
  · skip
    have hlt : j < s.length := by omega
    refine JC.condT (congrArg Value.bool (decide_eq_true h_8)) ?_
    refine JC.skip ?_
    refine JQ.seq ?_
    refine JC.seq ?_
    refine JC.block ?_
    refine JC.seq ?_
    refine JC.region ?_
    obtain ⟨hr_9, hr_9b, -⟩ := sees_some hs_sa (by omega)
    refine JL.pure rfl (PO.indexAddrV (i := j) Tryz.underlying29 Tryz.sizeOf113 hr_9 hr_9b he_5 he_7 (by omega)) ?_
    refine JL.ld rfl (LO.loadSK (vs := [str ((s.getD j c0).1), str ((s.getD j c0).2)]) hs_sa (fun _ _ => List.not_mem_nil) rfl Tryz.isAgg113 Tryz.sizeOf113 (atC (by omega)) rfl (by decide)) ?_
    refine JL.op rfl (JO.alloc (z := .agg #[str [], str []]) (cs := [str [], str []]) Tryz.zeroValue113 rfl) ?_
    rintro _ _ ⟨b_10, rfl, rfl⟩
    refine JL.op rfl (JO.store 0 (vs := [str ((s.getD j c0).1), str ((s.getD j c0).2)]) (cs' := [str ((s.getD j c0).1), str ((s.getD j c0).2)]) rfl rfl rfl rfl Tryz.sizeOf113 rfl rfl (Nat.le_of_ble_eq_true rfl) rfl) ?_
    rintro _ _ rfl
    refine JL.nil ?_
    refine JQ.seq ?_
    refine JC.seq ?_
    refine JC.region ?_
    refine JL.pure rfl (PO.fieldAddr fo113_0 rfl) ?_
    refine JL.ld rfl (LO.load1 0 (v := str ((s.getD j c0).1)) rfl rfl Tryz.isAgg9 rfl) ?_
    refine JL.pure rfl (PO.move (v := str p) he_2) ?_
    refine JL.op rfl (JO.call [] Tryz.call304 rfl (N_hasPrefix ((s.getD j c0).1) p) rfl (fun _ _ => trivial)) ?_
    rintro _ _ ⟨_, ⟨b_13, e_11, rfl, rfl⟩, rfl⟩
    refine JL.nil ?_
    refine JQ.seq ?_
    rcases Bool.eq_false_or_eq_true (b_13) with h_14 | h_14
    · skip
      refine JC.condT (congrArg Value.bool h_14) ?_
      refine JC.region ?_
      refine JL.pure rfl (PO.move (v := .slice out_a out_.length out_c) he_4) ?_
      refine JL.pure rfl (PO.fieldAddr fo113_0 rfl) ?_
      refine JL.ld rfl (LO.load1 0 (v := str ((s.getD j c0).1)) rfl rfl Tryz.isAgg9 rfl) ?_
      refine JL.op rfl (JO.buildSlice (ps := [(0, str ((s.getD j c0).1))]) (cur := #[str ((s.getD j c0).1)]) Tryz.underlying23 Tryz.sizeOf9 Tryz.zeroValue9 rfl (by kernel_rfl) (by decide) (by decide)) ?_
      rintro _ _ ⟨a_15, rfl, rfl⟩
      refine JL.op rfl (JO.append' 2 (q := 1) (news := ([(s.getD j c0).1] : List Str).map str) (n' := (out_ ++ ([(s.getD j c0).1] : List Str)).length) (cs' := (out_ ++ ([(s.getD j c0).1] : List Str)).map str) rfl Tryz.underlying23 Tryz.underlying23 Tryz.typeInfo9 rfl (by' := 16) rfl rfl rfl rfl rfl (fun w hw => Src.sees (hw.see (i := 0) rfl) (oneS _)) (by (try simp only [List.length_append, List.length_cons, List.length_nil, List.length_take, List.length_drop]); omega) (by (try simp only [List.length_append, List.length_cons, List.length_nil, List.length_take, List.length_drop]); omega) (by simp only [List.length_append, List.length_take, List.length_drop, List.length_cons, List.length_nil] <;> first | rfl | omega) (by simp only [List.map_append])) ?_
      rintro _ _ ⟨a_16, c_17, rfl, rfl⟩
      refine JL.pure rfl (PO.assign (v := .slice a_16 ((out_ ++ ([(s.getD j c0).1] : List Str)).length) c_17) rfl) ?_
      refine JL.nil ?_
      refine JQ.blockN ?_
      refine JQ.seq ?_
      refine JC.region ?_
      refine JL.pure rfl (PO.add (c := ((j + 1 : Nat) : Int)) he_7 rfl (wr (by omega))) ?_
      refine JL.pure rfl (PO.move (v := .int .i64 ((j + 1 : Nat) : Int)) rfl) ?_
      refine JL.nil ?_
      refine JQ.pick [2] (A := [rS a_16 c_17 (out_ ++ ([(s.getD j c0).1] : List Str))]) rfl ?_
      refine JQ.again (s.length - (j + 1)) (by omega) ⟨j + 1, a_16, c_17, (out_ ++ ([(s.getD j c0).1] : List Str)), by omega, (by first | omega | (simp only [List.length_append, List.length_cons, List.length_nil, List.length_take, List.length_drop]; omega)), (by rw [drop_at (getD_some (d := c0) hlt)] at hR; simp only [underL, h_8, e_11, h_14, if_true, if_false, Bool.false_eq_true, Bool.not_true, Bool.not_false] at hR; (repeat (first | rw [if_pos (by omega)] at hR | rw [if_neg (by omega)] at hR)); exact hR), he_2, he_3, rfl, he_5, he_6, rfl, rfl, rfl⟩
    · skip
      refine JC.condF (congrArg Value.bool h_14) ?_
      refine JC.skip ?_
      refine JQ.blockN ?_
      refine JQ.seq ?_
      refine JC.region ?_
      refine JL.pure rfl (PO.add (c := ((j + 1 : Nat) : Int)) he_7 rfl (wr (by omega))) ?_
      refine JL.pure rfl (PO.move (v := .int .i64 ((j + 1 : Nat) : Int)) rfl) ?_
      refine JL.nil ?_
      refine JQ.pick [1] (A := [rS out_a out_c out_]) rfl ?_
      refine JQ.again (s.length - (j + 1)) (by omega) ⟨j + 1, out_a, out_c, out_, by omega, (by first | omega | (simp only [List.length_append, List.length_cons, List.length_nil, List.length_take, List.length_drop]; omega)), (by rw [drop_at (getD_some (d := c0) hlt)] at hR; simp only [underL, h_8, e_11, h_14, if_true, if_false, Bool.false_eq_true, Bool.not_true, Bool.not_false] at hR; (repeat (first | rw [if_pos (by omega)] at hR | rw [if_neg (by omega)] at hR)); exact hR), he_2, he_3, he_4, he_5, he_6, rfl, rfl, rfl⟩
  · skip
    rw [List.drop_of_length_le (by omega)] at hR
    simp only [underL] at hR
    have hE := hR.symm
    refine JC.condF (congrArg Value.bool (decide_eq_false h_8)) ?_
    refine JC.exit ?_
    refine JQ.thenExit ?_
    refine JQ.thenExit ?_
    refine JQ.blockE ?_
    refine JQ.seq ?_
    refine JC.seq ?_
    refine JC.region ?_
    refine JL.pure rfl (PO.move (v := .slice out_a out_.length out_c) he_4) ?_
    refine JL.pure rfl (PO.assign (v := .slice out_a out_.length out_c) rfl) ?_
    refine JL.nil ?_
    refine JQ.seq ?_
    refine JC.ret ?_
    refine Done.one (.inl rfl) rfl (RV.tmp (v := .slice out_a out_.length out_c) rfl) (List.Sublist.refl _) ?_
    exact ⟨out_a, out_c, out_, (by rw [← underL_nil]; exact hE), (by first | omega | (simp only [List.length_append, List.length_cons, List.length_nil, List.length_take, List.length_drop]; omega)), rfl, rfl⟩

theorem N_skeysUnder (sa : Option Addr) (sc : Nat) (s : List Cell) (p : Str) (hs : s.length ≤ 1000000000) (hp : p.length ≤ 1000000000) (hlong : ∀ j, j < s.length → (s.getD j c0).1.length ≤ 1000000000) :
    Ct Tryz.prog 44 [.slice sa s.length sc, str p] ([]) (fun w => Sees w (.slice sa s.length sc) 2 s.length (s.flatMap encC)) (fun v A' => ∃ r0a r0c r0, keysUnder s p = r0 ∧ r0.length ≤ s.length ∧ v = .slice r0a r0.length r0c ∧ A' = [rS r0a r0c r0]) := by
  refine Ct.intro Tryz.func44 rfl Tryz.ntmps44 (Nat.le_of_ble_eq_true rfl) fun w0 hpre => ?_
  have hs_sa : Sees w0 _ _ _ _ := hpre
  refine JC.seq ?_
  refine JC.region ?_
  refine JL.pure rfl (PO.assign (v := .slice none 0 0) rfl) ?_
  refine JL.nil ?_
  refine JQ.seq ?_
  refine JC.seq ?_
  refine JC.region ?_
  refine JL.op rfl (JO.buildSlice (ps := []) (cur := #[]) Tryz.underlying23 Tryz.sizeOf9 Tryz.zeroValue9 rfl (by kernel_rfl) (by decide) (by decide)) ?_
  rintro _ _ ⟨a_1, rfl, rfl⟩
  refine JL.pure rfl (PO.assign (v := .slice a_1 0 0) rfl) ?_
  refine JL.nil ?_
  refine JQ.seq ?_
  refine JC.seq ?_
  refine JC.seq ?_
  refine JC.region ?_
  refine JL.pure rfl (PO.assign (v := .int .i64 0) rfl) ?_
  refine JL.nil ?_
  refine JQ.seq ?_
  refine JC.block ?_
  refine JC.loop (fun k_ e_ L_ => ∃ j : Nat, ∃ out_a : Option Addr, ∃ out_c : Nat, ∃ out_ : List Str, (j ≤ s.length) ∧ (out_.length ≤ j) ∧ (underL p (s.drop j) out_ = underL p s ([] : List Str)) ∧ e_ 0 = .slice sa s.length sc ∧ e_ 1 = str p ∧ e_ 4 = .slice none 0 0 ∧ e_ 5 = .slice out_a out_.length out_c ∧ e_ 6 = .int .i64 ((j : Nat) : Int) ∧ L_ = [rS out_a out_c out_] ∧ k_ = s.length - j) _ ⟨0, a_1, 0, ([] : List Str), by omega, (by first | omega | (simp only [List.length_append, List.length_cons, List.length_nil, List.length_take, List.length_drop]; omega)), rfl, rfl, rfl, rfl, rfl, rfl, rfl, rfl⟩ ?_
  rintro _ e_2 _ ⟨j, out_a, out_c, out_, hj, ho, hR, he_3, he_4, he_5, he_6, he_7, rfl, rfl⟩
  refine JC.seq ?_
  refine JC.seq ?_
  refine JC.region ?_
  refine JL.pure rfl (PO.move (v := .int .i64 ((j : Nat) : Int)) he_7) ?_
  refine JL.pure rfl (PO.move (v := .slice sa s.length sc) he_3) ?_
  refine JL.pure rfl (PO.lenV Tryz.underlying29 rfl) ?_
  refine JL.pure rfl (PO.lss rfl rfl) ?_
  refine JL.nil ?_
  refine JQ.seq ?_
  by_cases h_8 : ((j : Nat) : Int) < ((s.length : Nat) : Int)
  · skip
    have hlt : j < s.length := by omega
    have hlj := hlong j hlt
    refine JC.condT (congrArg Value.bool (decide_eq_true h_8)) ?_
    refine JC.skip ?_
    refine JQ.seq ?_
    refine JC.seq ?_
    refine JC.block ?_
    refine JC.seq ?_
    refine JC.region ?_
    refine JL.pure rfl (PO.move (v := .slice sa s.length sc) he_3) ?_
    refine JL.pure rfl (PO.move (v := .int .i64 ((j : Nat) : Int)) he_7) ?_
    obtain ⟨hr_9, hr_9b, -⟩ := sees_some hs_sa (by omega)
    refine JL.pure rfl (PO.indexAddrV (i := j) Tryz.underlying29 Tryz.sizeOf113 hr_9 hr_9b rfl rfl (by omega)) ?_
    refine JL.pure rfl (PO.fieldAddrE fo113_0 hr_9 rfl) ?_
    refine JL.ld rfl (LO.loadS1 (v := str ((s.getD j c0).1)) hs_sa (fun _ _ => List.not_mem_nil) rfl Tryz.isAgg9 (atC1 (by omega))) ?_
    refine JL.pure rfl (PO.move (v := str p) he_4) ?_
    refine JL.op rfl (JO.call [] Tryz.call153 rfl (N_begins ((s.getD j c0).1) p (by omega) (by omega)) rfl (fun _ _ => trivial)) ?_
    rintro _ _ ⟨_, ⟨b_12, e_10, rfl, rfl⟩, rfl⟩
    refine JL.nil ?_
    refine JQ.seq ?_
    rcases Bool.eq_false_or_eq_true (b_12) with h_13 | h_13
    · skip
      refine JC.condT (congrArg Value.bool h_13) ?_
      refine JC.region ?_
      refine JL.pure rfl (PO.move (v := .slice out_a out_.length out_c) he_6) ?_
      refine JL.pure rfl (PO.move (v := .slice sa s.length sc) he_3) ?_
      refine JL.pure rfl (PO.move (v := .int .i64 ((j : Nat) : Int)) he_7) ?_
      refine JL.pure rfl (PO.indexAddrV (i := j) Tryz.underlying29 Tryz.sizeOf113 hr_9 hr_9b rfl rfl (by omega)) ?_
      refine JL.pure rfl (PO.fieldAddrE fo113_0 hr_9 rfl) ?_
      refine JL.ld rfl (LO.loadS1 (v := str ((s.getD j c0).1)) hs_sa (fun _ _ => List.not_mem_nil) rfl Tryz.isAgg9 (atC1 (by omega))) ?_
      refine JL.op rfl (JO.buildSlice (ps := [(0, str ((s.getD j c0).1))]) (cur := #[str ((s.getD j c0).1)]) Tryz.underlying23 Tryz.sizeOf9 Tryz.zeroValue9 rfl (by kernel_rfl) (by decide) (by decide)) ?_
      rintro _ _ ⟨a_14, rfl, rfl⟩
      refine JL.op rfl (JO.append' 1 (q := 1) (news := ([(s.getD j c0).1] : List Str).map str) (n' := (out_ ++ ([(s.getD j c0).1] : List Str)).length) (cs' := (out_ ++ ([(s.getD j c0).1] : List Str)).map str) rfl Tryz.underlying23 Tryz.underlying23 Tryz.typeInfo9 rfl (by' := 16) rfl rfl rfl rfl rfl (fun w hw => Src.sees (hw.see (i := 0) rfl) (oneS _)) (by (try simp only [List.length_append, List.length_cons, List.length_nil, List.length_take, List.length_drop]); omega) (by (try simp only [List.length_append, List.length_cons, List.length_nil, List.length_take, List.length_drop]); omega) (by simp only [List.length_append, List.length_take, List.length_drop, List.length_cons, List.length_nil] <;> first | rfl | omega) (by simp only [List.map_append])) ?_
      rintro _ _ ⟨a_15, c_16, rfl, rfl⟩
      refine JL.pure rfl (PO.assign (v := .slice a_15 ((out_ ++ ([(s.getD j c0).1] : List Str)).length) c_16) rfl) ?_
      refine JL.nil ?_
      refine JQ.blockN ?_
      refine JQ.seq ?_
      refine JC.region ?_
      refine JL.pure rfl (PO.move (v := .int .i64 ((j : Nat) : Int)) he_7) ?_
      refine JL.pure rfl (PO.add (c := ((j + 1 : Nat) : Int)) rfl rfl (wr (by omega))) ?_
      refine JL.pure rfl (PO.assign (v := .int .i64 ((j + 1 : Nat) : Int)) rfl) ?_
      refine JL.nil ?_
      refine JQ.pick [1] (A := [rS a_15 c_16 (out_ ++ ([(s.getD j c0).1] : List Str))]) rfl ?_
      refine JQ.again (s.length - (j + 1)) (by omega) ⟨j + 1, a_15, c_16, (out_ ++ ([(s.getD j c0).1] : List Str)), by omega, (by first | omega | (simp only [List.length_append, List.length_cons, List.length_nil, List.length_take, List.length_drop]; omega)), (by rw [drop_at (getD_some (d := c0) hlt)] at hR; simp only [underL, h_8, e_10, h_13, if_true, if_false, Bool.false_eq_true, Bool.not_true, Bool.not_false] at hR; (repeat (first | rw [if_pos (by omega)] at hR | rw [if_neg (by omega)] at hR)); exact hR), he_3, he_4, he_5, rfl, rfl, rfl, rfl⟩
    · skip
      refine JC.condF (congrArg Value.bool h_13) ?_
      refine JC.skip ?_
      refine JQ.blockN ?_
      refine JQ.seq ?_
      refine JC.region ?_
      refine JL.pure rfl (PO.move (v := .int .i64 ((j : Nat) : Int)) he_7) ?_
      refine JL.pure rfl (PO.add (c := ((j + 1 : Nat) : Int)) rfl rfl (wr (by omega))) ?_
      refine JL.pure rfl (PO.assign (v := .int .i64 ((j + 1 : Nat) : Int)) rfl) ?_
      refine JL.nil ?_
      refine JQ.pick [0] (A := [rS out_a out_c out_]) rfl ?_
      refine JQ.again (s.length - (j + 1)) (by omega) ⟨j + 1, out_a, out_c, out_, by omega, (by first | omega | (simp only [List.length_append, List.length_cons, List.length_nil, List.length_take, List.length_drop]; omega)), (by rw [drop_at (getD_some (d := c0) hlt)] at hR; simp only [underL, h_8, e_10, h_13, if_true, if_false, Bool.false_eq_true, Bool.not_true, Bool.not_false] at hR; (repeat (first | rw [if_pos (by omega)] at hR | rw [if_neg (by omega)] at hR)); exact hR), he_3, he_4, he_5, he_6, rfl, rfl, rfl⟩
  · skip
    rw [List.drop_of_length_le (by omega)] at hR
    simp only [underL] at hR
    have hE := hR.symm
    refine JC.condF (congrArg Value.bool (decide_eq_false h_8)) ?_
    refine JC.exit ?_
    refine JQ.thenExit ?_
    refine JQ.thenExit ?_
    refine JQ.blockE ?_
    refine JQ.seq ?_
    refine JC.seq ?_
    refine JC.region ?_
    refine JL.pure rfl (PO.move (v := .slice out_a out_.length out_c) he_6) ?_
    refine JL.pure rfl (PO.assign (v := .slice out_a out_.length out_c) rfl) ?_
    refine JL.nil ?_
    refine JQ.seq ?_
    refine JC.ret ?_
    refine Done.one (.inl rfl) rfl (RV.tmp (v := .slice out_a out_.length out_c) rfl) (List.Sublist.refl _) ?_
    exact ⟨out_a, out_c, out_, (by rw [← underL_nil]; exact hE), (by first | omega | (simp only [List.length_append, List.length_cons, List.length_nil, List.length_take, List.length_drop]; omega)), rfl, rfl⟩

theorem N_under (p : Nat) (x : MA) (m : MS) {S T : Nat} (hk : m.ok S T) (hS : S ≤ 900000000) (hT : T ≤ 900000000) (p_ : Str) (hp_ : p_.length ≤ 100000000) :
    Ct Tryz.prog 260 [.pointer (some ⟨p, 0, none⟩), str p_] (mb p x m :: mr x m) (fun _ => True) (fun v A' => ∃ x' m' r0a r0c r0, MS.under m p_ = (m', r0) ∧ m'.ok (S) (T + 1) ∧ okL S p_.length r0 ∧ v = .slice r0a r0.length r0c ∧ A' = mb p x' m' :: mr x' m' ++ [rS r0a r0c r0]) := by
  obtain ⟨hk0, hk1, hk2, hk3⟩ := id hk
  refine Ct.intro Tryz.func260 rfl Tryz.ntmps260 (Nat.le_of_ble_eq_true rfl) fun w0 hpre => ?_
  refine JC.seq ?_
  refine JC.region ?_
  refine JL.pure rfl (PO.assign (v := .slice none 0 0) rfl) ?_
  refine JL.nil ?_
  refine JQ.seq ?_
  refine JC.seq ?_
  refine JC.region ?_
  refine JL.pure rfl (PO.move (v := .pointer (some ⟨p, 0, none⟩)) rfl) ?_
  refine JL.pure rfl (PO.move (v := .pointer (some ⟨p, 0, none⟩)) rfl) ?_
  refine JL.pure rfl (PO.nilCheck rfl) ?_
  refine JL.pure rfl (PO.fieldAddr fo32_1 rfl) ?_
  refine JL.pure rfl (PO.fieldAddr fo30_0 rfl) ?_
  refine JL.ld rfl (LO.load1 0 (v := .slice x.a1 m.r.length x.c1) rfl rfl Tryz.isAgg23 rfl) ?_
  refine JL.pure rfl (PO.move (v := str p_) rfl) ?_
  refine JL.pure rfl (PO.addS rfl rfl (by (try simp only [List.length_append, List.length_cons, List.length_nil, List.length_drop, List.length_take]); omega)) ?_
  refine JL.op rfl (JO.call [2] Tryz.call281 rfl (C_addSpan x.a1 x.c1 m.r (p_ ++ [42]) (by omega)) rfl (fun _ _ => trivial)) ?_
  rintro _ _ ⟨_, ⟨a_1, c_2, rfl, rfl⟩, rfl⟩
  refine JL.pure rfl (PO.nilCheck rfl) ?_
  refine JL.pure rfl (PO.fieldAddr fo32_1 rfl) ?_
  refine JL.pure rfl (PO.fieldAddr fo30_0 rfl) ?_
  refine JL.op rfl (JO.store 1 (vs := [.slice a_1 ((addSpan m.r (p_ ++ [42])).length) c_2]) (cs' := [.slice x.a0 m.s.length x.c0, .slice a_1 ((addSpan m.r (p_ ++ [42])).length) c_2, .slice x.a2 m.w.length x.c2]) rfl rfl rfl rfl Tryz.sizeOf23 rfl rfl (Nat.le_of_ble_eq_true rfl) rfl) ?_
  rintro _ _ rfl
  refine JL.nil ?_
  refine JQ.seq ?_
  refine JC.seq ?_
  refine JC.region ?_
  refine JL.pure rfl (PO.move (v := .pointer (some ⟨p, 0, none⟩)) rfl) ?_
  refine JL.pure rfl (PO.nilCheck rfl) ?_
  refine JL.pure rfl (PO.fieldAddr fo32_0 rfl) ?_
  refine JL.ld rfl (LO.load1 1 (v := .slice x.a0 m.s.length x.c0) rfl rfl Tryz.isAgg29 rfl) ?_
  refine JL.pure rfl (PO.move (v := str p_) rfl) ?_
  refine JL.op rfl (JO.call [] Tryz.call284 rfl (N_ikeysUnder x.a0 x.c0 m.s p_ (by have hl_ := hk.1; omega) (by omega)) rfl (fun w hw => hw.see (i := 2) rfl)) ?_
  rintro _ _ ⟨_, ⟨l_5a, l_5c, l_5, e_3, f_6, rfl, rfl⟩, rfl⟩
  refine JL.pure rfl (PO.assign (v := .slice l_5a l_5.length l_5c) rfl) ?_
  refine JL.nil ?_
  refine JQ.seq ?_
  refine JC.ret ?_
  refine JQ.perm (pick_perm [2, 2, 1, 1, 0] (A := [bk p 32 [.slice x.a0 m.s.length x.c0, .slice a_1 ((addSpan m.r (p_ ++ [42])).length) c_2, .slice x.a2 m.w.length x.c2], rC x.a0 x.c0 m.s, rS a_1 c_2 (addSpan m.r (p_ ++ [42])), rS x.a2 x.c2 m.w, rS l_5a l_5c l_5]) (F := []) rfl).symm ?_
  refine Done.one (.inl rfl) rfl (RV.tmp (v := .slice l_5a l_5.length l_5c) rfl) (List.sublist_append_left [bk p 32 [.slice x.a0 m.s.length x.c0, .slice a_1 ((addSpan m.r (p_ ++ [42])).length) c_2, .slice x.a2 m.w.length x.c2], rC x.a0 x.c0 m.s, rS a_1 c_2 (addSpan m.r (p_ ++ [42])), rS x.a2 x.c2 m.w, rS l_5a l_5c l_5] []) ?_
  subst e_3
  exact ⟨⟨x.a0, x.c0, a_1, c_2, x.a2, x.c2⟩, (m.under p_).1, l_5a, l_5c, _, rfl, hk.under p_, keysUnder_ok hk p_, rfl, rfl⟩

theorem N_sUnder (x : MA) (m : MS) {S T : Nat} (hk : m.ok S T) (hS : S ≤ 900000000) (hT : T ≤ 900000000) (p_ : Str) (hp_ : p_.length ≤ 100000000) :
    Ct Tryz.prog 261 [mv x m, str p_] (mr x m) (fun _ => True) (fun v A' => ∃ x' m' r0a r0c r0, MS.under m p_ = (m', r0) ∧ m'.ok (S) (T + 1) ∧ okL S p_.length r0 ∧ v = .tuple #[mv x' m', .slice r0a r0.length r0c] ∧ A' = mr x' m' ++ [rS r0a r0c r0]) := by
  obtain ⟨hk0, hk1, hk2, hk3⟩ := id hk
  refine Ct.intro Tryz.func261 rfl Tryz.ntmps261 (Nat.le_of_ble_eq_true rfl) fun w0 hpre => ?_
  refine JC.seq ?_
  refine JC.region ?_
  refine JL.op rfl (JO.box (cs := [.slice x.a0 m.s.length x.c0, .slice x.a1 m.r.length x.c1, .slice x.a2 m.w.length x.c2]) rfl rfl) ?_
  rintro _ _ ⟨b_1, rfl, rfl⟩
  refine JL.op rfl (JO.alloc (z := .agg #[.slice none 0 0, .slice none 0 0, .slice none 0 0]) (cs := [.slice none 0 0, .slice none 0 0, .slice none 0 0]) Tryz.zeroValue32 rfl) ?_
  rintro _ _ ⟨b_2, rfl, rfl⟩
  refine JL.pure rfl (PO.assign (v := .slice none 0 0) rfl) ?_
  refine JL.nil ?_
  refine JQ.seq ?_
  refine JC.seq ?_
  refine JC.region ?_
  refine JL.pure rfl (PO.fieldAddr fo32_1 rfl) ?_
  refine JL.pure rfl (PO.fieldAddr fo30_0 rfl) ?_
  refine JL.ld rfl (LO.load1 1 (v := .slice x.a1 m.r.length x.c1) rfl rfl Tryz.isAgg23 rfl) ?_
  refine JL.pure rfl (PO.move (v := str p_) rfl) ?_
  refine JL.pure rfl (PO.addS rfl rfl (by (try simp only [List.length_append, List.length_cons, List.length_nil, List.length_drop, List.length_take]); omega)) ?_
  refine JL.op rfl (JO.call [] Tryz.call279 rfl (C_sAddSpan x.a1 x.c1 m.r (p_ ++ [42]) (by omega)) rfl (fun w hw => hw.see (i := 3) rfl)) ?_
  rintro _ _ ⟨_, ⟨a_3, c_4, rfl, rfl⟩, rfl⟩
  refine JL.pure rfl (PO.fieldAddr fo32_1 rfl) ?_
  refine JL.pure rfl (PO.fieldAddr fo30_0 rfl) ?_
  refine JL.op rfl (JO.store 2 (vs := [.slice a_3 ((addSpan m.r (p_ ++ [42])).length) c_4]) (cs' := [.slice x.a0 m.s.length x.c0, .slice a_3 ((addSpan m.r (p_ ++ [42])).length) c_4, .slice x.a2 m.w.length x.c2]) rfl rfl rfl rfl Tryz.sizeOf23 rfl rfl (Nat.le_of_ble_eq_true rfl) rfl) ?_
  rintro _ _ rfl
  refine JL.nil ?_
  refine JQ.seq ?_
  refine JC.seq ?_
  refine JC.regionA [bk b_1 32 [.slice x.a0 m.s.length x.c0, .slice a_3 ((addSpan m.r (p_ ++ [42])).length) c_4, .slice x.a2 m.w.length x.c2]] 6 mixed (by simp) ?_
  refine JA.take 0 rfl (by kernel_rfl) (NP.th NP.body) (by kernel_rfl) (by kernel_rfl) (by kernel_rfl) rfl (LO.loadK 0 (vs := [.slice x.a0 m.s.length x.c0, .slice a_3 ((addSpan m.r (p_ ++ [42])).length) c_4, .slice x.a2 m.w.length x.c2]) rfl rfl Tryz.isAgg32 Tryz.sizeOf32 rfl rfl) ?_
  refine JA.takeP 1 rfl (by kernel_rfl) (NP.th NP.body) (by kernel_rfl) (by kernel_rfl) rfl (PO.fieldAddr fo32_0 rfl) ?_
  refine JA.take 2 rfl (by kernel_rfl) (NP.th NP.body) (by kernel_rfl) (by kernel_rfl) (by kernel_rfl) rfl (LO.load1 0 (v := .slice x.a0 m.s.length x.c0) rfl rfl Tryz.isAgg29 rfl) ?_
  refine JA.takeP 3 rfl (by kernel_rfl) (NP.th NP.body) (by kernel_rfl) (by kernel_rfl) rfl (PO.move (v := str p_) rfl) ?_
  refine JA.one (i := 4) (by kernel_rfl) ?_
  refine JX.op rfl rfl (JO.call [] Tryz.call44 rfl (N_skeysUnder x.a0 x.c0 m.s p_ (by have hl_ := hk.1; omega) (by omega) (fun j hj => Nat.le_trans (hk.2.2.2 _ (getD_mem hj)).1 (by decide))) rfl (fun w hw => hw.see (i := 3) rfl)) ?_
  rintro _ _ ⟨_, ⟨l_11a, l_11c, l_11, e_9, f_12, rfl, rfl⟩, rfl⟩
  refine ⟨(by simp), ?_⟩
  refine JA.one (i := 5) (by kernel_rfl) ?_
  refine JX.op rfl rfl (JO.store 2 (vs := [.slice x.a0 m.s.length x.c0, .slice a_3 ((addSpan m.r (p_ ++ [42])).length) c_4, .slice x.a2 m.w.length x.c2]) (cs' := [.slice x.a0 m.s.length x.c0, .slice a_3 ((addSpan m.r (p_ ++ [42])).length) c_4, .slice x.a2 m.w.length x.c2]) rfl rfl rfl rfl Tryz.sizeOf32 rfl rfl (Nat.le_of_ble_eq_true rfl) rfl) ?_
  rintro _ _ rfl
  refine ⟨(by simp), ?_⟩
  refine JA.takeP 6 rfl (by kernel_rfl) (NP.th NP.body) (by kernel_rfl) (by kernel_rfl) rfl (PO.assign (v := .slice l_11a l_11.length l_11c) rfl) ?_
  refine JA.done (by kernel_rfl) ?_
  refine JQ.seq ?_
  refine JC.ret ?_
  refine JQ.perm (pick_perm [4, 1, 4, 0] (A := [rC x.a0 x.c0 m.s, rS a_3 c_4 (addSpan m.r (p_ ++ [42])), rS x.a2 x.c2 m.w, rS l_11a l_11c l_11]) (F := [bk b_2 32 [.slice x.a0 m.s.length x.c0, .slice a_3 ((addSpan m.r (p_ ++ [42])).length) c_4, .slice x.a2 m.w.length x.c2], bk b_1 32 [.slice x.a0 m.s.length x.c0, .slice a_3 ((addSpan m.r (p_ ++ [42])).length) c_4, .slice x.a2 m.w.length x.c2], rS x.a1 x.c1 m.r]) rfl).symm ?_
  refine Done.two (.inl rfl) rfl (RV.cell1 (LO.loadK 4 (vs := [.slice x.a0 m.s.length x.c0, .slice a_3 ((addSpan m.r (p_ ++ [42])).length) c_4, .slice x.a2 m.w.length x.c2]) rfl rfl Tryz.isAgg32 Tryz.sizeOf32 rfl rfl) ⟨_, rfl⟩) (RV.tmp (v := .slice l_11a l_11.length l_11c) rfl) (List.sublist_append_left [rC x.a0 x.c0 m.s, rS a_3 c_4 (addSpan m.r (p_ ++ [42])), rS x.a2 x.c2 m.w, rS l_11a l_11c l_11] [bk b_2 32 [.slice x.a0 m.s.length x.c0, .slice a_3 ((addSpan m.r (p_ ++ [42])).length) c_4, .slice x.a2 m.w.length x.c2], bk b_1 32 [.slice x.a0 m.s.length x.c0, .slice a_3 ((addSpan m.r (p_ ++ [42])).length) c_4, .slice x.a2 m.w.length x.c2], rS x.a1 x.c1 m.r]) ?_
  subst e_9
  exact ⟨⟨x.a0, x.c0, a_3, c_4, x.a2, x.c2⟩, (m.under p_).1, l_11a, l_11c, _, rfl, hk.under p_, keysUnder_ok hk p_, rfl, rfl⟩

theorem N_wipe (p : Nat) (x : MA) (m : MS) {S T : Nat} (hk : m.ok S T) (hS : S ≤ 400000000) (hT : T ≤ 400000000) (p_ : Str) (hp_ : p_.length ≤ 100000000) :
    Ct Tryz.prog 256 [.pointer (some ⟨p, 0, none⟩), str p_] (mb p x m :: mr x m) (fun _ => True) (fun v A' => ∃ x' m', MS.wipe' m p_ = m' ∧ m'.ok (S) (T + S + 1) ∧ v = .tuple #[] ∧ A' = mb p x' m' :: mr x' m') := by
  refine Ct.intro Tryz.func256 rfl Tryz.ntmps256 (Nat.le_of_ble_eq_true rfl) fun w0 hpre => ?_
  refine JC.seq ?_
  refine JC.region ?_
  refine JL.pure rfl (PO.move (v := .pointer (some ⟨p, 0, none⟩)) rfl) ?_
  refine JL.pure rfl (PO.move (v := str p_) rfl) ?_
  refine JL.op rfl (JO.call [0, 0, 0, 0] Tryz.call260 rfl (N_under p x m hk (by omega) (by omega) p_ (by omega)) rfl (fun _ _ => trivial)) ?_
  rintro _ _ ⟨_, ⟨x_3, m_4, l_5a, l_5c, l_5, e_1, k_2, f_6, rfl, rfl⟩, rfl⟩
  refine JL.pure rfl (PO.lenV Tryz.underlying23 rfl) ?_
  refine JL.pure rfl (PO.move (v := .int .i64 0) rfl) ?_
  refine JL.nil ?_
  refine JQ.seq ?_
  refine JC.block ?_
  have hll := f_6.1
  refine JC.loop (fun k_ e_ L_ => ∃ j : Nat, ∃ x : MA, ∃ mm : MS, (j ≤ l_5.length) ∧ (mm.ok (S) (T + 1 + j)) ∧ (MS.wipeL (l_5.drop j) mm = MS.wipeL l_5 m_4) ∧ e_ 0 = .pointer (some ⟨p, 0, none⟩) ∧ e_ 8 = .slice l_5a l_5.length l_5c ∧ e_ 9 = .int .i64 ((l_5.length : Nat) : Int) ∧ e_ 10 = .int .i64 ((j : Nat) : Int) ∧ L_ = [mb p x mm, rC x.a0 x.c0 mm.s, rS x.a1 x.c1 mm.r, rS x.a2 x.c2 mm.w, rS l_5a l_5c l_5] ∧ k_ = l_5.length - j) _ ⟨0, x_3, m_4, by omega, (k_2.mono (by omega) (by omega)), rfl, rfl, rfl, rfl, rfl, rfl, rfl⟩ ?_
  rintro _ e_7 _ ⟨j, x, mm, hj, hkmm, hR, he_8, he_9, he_10, he_11, rfl, rfl⟩
  refine JC.seq ?_
  refine JC.region ?_
  refine JL.pure rfl (PO.lss he_11 he_10) ?_
  refine JL.nil ?_
  refine JQ.seq ?_
  refine JC.seq ?_
  by_cases h_12 : ((j : Nat) : Int) < ((l_5.length : Nat) : Int)
  · skip
    have hlt : j < l_5.length := by omega
    have hbj := f_6.2 j hlt
    try simp only [List.length_cons, List.length_nil] at hbj
    refine JC.condT (congrArg Value.bool (decide_eq_true h_12)) ?_
    refine JC.skip ?_
    refine JQ.seq ?_
    refine JC.seq ?_
    refine JC.block ?_
    refine JC.seq ?_
    refine JC.region ?_
    refine JL.facts fun hst => ?_
    obtain ⟨hr_13, hr_13b, -⟩ := row_some 4 rfl (by omega) hst
    refine JL.pure rfl (PO.indexAddrV (i := j) Tryz.underlying23 Tryz.sizeOf9 hr_13 hr_13b he_9 he_11 (by omega)) ?_
    refine JL.ld rfl (LO.loadR1 4 (v := str (l_5.getD j [])) rfl rfl Tryz.isAgg9 (atS (by omega))) ?_
    refine JL.pure rfl (PO.assign (v := str (l_5.getD j [])) rfl) ?_
    refine JL.nil ?_
    refine JQ.seq ?_
    refine JC.region ?_
    refine JL.pure rfl (PO.move (v := .pointer (some ⟨p, 0, none⟩)) he_8) ?_
    refine JL.pure rfl (PO.move (v := str (l_5.getD j [])) rfl) ?_
    refine JL.op rfl (JO.call [0, 0, 0, 0] Tryz.call240 rfl (N_layNil p x mm hkmm (by omega) (by omega) (l_5.getD j []) (by omega)) rfl (fun _ _ => trivial)) ?_
    rintro _ _ ⟨_, ⟨x_16, m_17, e_14, k_15, rfl, rfl⟩, rfl⟩
    refine JL.nil ?_
    refine JQ.blockN ?_
    refine JQ.seq ?_
    refine JC.region ?_
    refine JL.pure rfl (PO.add (c := ((j + 1 : Nat) : Int)) he_11 rfl (wr (by omega))) ?_
    refine JL.pure rfl (PO.move (v := .int .i64 ((j + 1 : Nat) : Int)) rfl) ?_
    refine JL.nil ?_
    refine JQ.pick [0, 0, 0, 0, 0] (A := [mb p x_16 m_17, rC x_16.a0 x_16.c0 m_17.s, rS x_16.a1 x_16.c1 m_17.r, rS x_16.a2 x_16.c2 m_17.w, rS l_5a l_5c l_5]) rfl ?_
    refine JQ.again (l_5.length - (j + 1)) (by omega) ⟨j + 1, x_16, m_17, by omega, (k_15.mono (by omega) (by omega)), (by rw [drop_at (getD_some (d := []) hlt)] at hR; simp only [MS.wipeL, e_1, h_12, e_14, if_true, if_false, Bool.false_eq_true, Bool.not_true, Bool.not_false] at hR; (repeat (first | rw [if_pos (by omega)] at hR | rw [if_neg (by omega)] at hR)); exact hR), he_8, he_9, he_10, rfl, rfl, rfl⟩
  · skip
    rw [List.drop_of_length_le (by omega)] at hR
    simp only [MS.wipeL] at hR
    have hE := hR.symm
    refine JC.condF (congrArg Value.bool (decide_eq_false h_12)) ?_
    refine JC.exit ?_
    refine JQ.thenExit ?_
    refine JQ.thenExit ?_
    refine JQ.blockE ?_
    refine Done.none (.inr rfl) rfl (List.sublist_append_left [mb p x mm, rC x.a0 x.c0 mm.s, rS x.a1 x.c1 mm.r, rS x.a2 x.c2 mm.w] [rS l_5a l_5c l_5]) ?_
    exact ⟨x, mm, (by simp only [MS.wipe', e_1, h_12, hE, if_true, if_false, Bool.false_eq_true, Bool.not_true, Bool.not_false]; (repeat (first | rw [if_pos (by omega)] | rw [if_neg (by omega)])); all_goals (first | rfl | simp only [if_true, if_false, Bool.false_eq_true, Bool.not_true, Bool.not_false, e_1, h_12, hE])), (hkmm.mono (by omega) (by omega)), rfl, rfl⟩

theorem M_wipe (x : MA) (m : MS) {S T : Nat} (hk : m.ok S T) (hS : S ≤ 400000000) (hT : T ≤ 400000000) (p_ : Str) (hp_ : p_.length ≤ 100000000) :
    Ct Tryz.prog 257 [mv x m, str p_] (mr x m) (fun _ => True) (fun v A' => ∃ x' m', MS.wipe' m p_ = m' ∧ m'.ok (S) (T + S + 1) ∧ v = mv x' m' ∧ A' = mr x' m') := by
  refine Ct.intro Tryz.func257 rfl Tryz.ntmps257 (Nat.le_of_ble_eq_true rfl) fun w0 hpre => ?_
  refine JC.seq ?_
  refine JC.region ?_
  refine JL.op rfl (JO.box (cs := [.slice x.a0 m.s.length x.c0, .slice x.a1 m.r.length x.c1, .slice x.a2 m.w.length x.c2]) rfl rfl) ?_
  rintro _ _ ⟨b_1, rfl, rfl⟩
  refine JL.op rfl (JO.alloc (z := .agg #[.slice none 0 0, .slice none 0 0, .slice none 0 0]) (cs := [.slice none 0 0, .slice none 0 0, .slice none 0 0]) Tryz.zeroValue32 rfl) ?_
  rintro _ _ ⟨b_2, rfl, rfl⟩
  refine JL.nil ?_
  refine JQ.seq ?_
  refine JC.seq ?_
  refine JC.region ?_
  refine JL.ld rfl (LO.loadK 1 (vs := [.slice x.a0 m.s.length x.c0, .slice x.a1 m.r.length x.c1, .slice x.a2 m.w.length x.c2]) rfl rfl Tryz.isAgg32 Tryz.sizeOf32 rfl rfl) ?_
  refine JL.pure rfl (PO.move (v := str p_) rfl) ?_
  refine JL.op rfl (JO.call [2, 2, 2] Tryz.call261 rfl (N_sUnder x m hk (by omega) (by omega) p_ (by omega)) rfl (fun _ _ => trivial)) ?_
  rintro _ _ ⟨_, ⟨x_5, m_6, l_7a, l_7c, l_7, e_3, k_4, f_8, rfl, rfl⟩, rfl⟩
  refine JL.pure rfl (PO.move (v := .tuple #[mv x_5 m_6, .slice l_7a l_7.length l_7c]) rfl) ?_
  refine JL.pure rfl (PO.extract (v := mv x_5 m_6) rfl rfl) ?_
  refine JL.pure rfl (PO.extract (v := .slice l_7a l_7.length l_7c) rfl rfl) ?_
  refine JL.op rfl (JO.store 5 (vs := [.slice x_5.a0 m_6.s.length x_5.c0, .slice x_5.a1 m_6.r.length x_5.c1, .slice x_5.a2 m_6.w.length x_5.c2]) (cs' := [.slice x_5.a0 m_6.s.length x_5.c0, .slice x_5.a1 m_6.r.length x_5.c1, .slice x_5.a2 m_6.w.length x_5.c2]) rfl rfl rfl rfl Tryz.sizeOf32 rfl rfl (Nat.le_of_ble_eq_true rfl) rfl) ?_
  rintro _ _ rfl
  refine JL.pure rfl (PO.assign (v := .slice l_7a l_7.length l_7c) rfl) ?_
  refine JL.nil ?_
  refine JQ.seq ?_
  refine JC.seq ?_
  refine JC.seq ?_
  refine JC.region ?_
  refine JL.pure rfl (PO.assign (v := .int .i64 0) rfl) ?_
  refine JL.nil ?_
  refine JQ.seq ?_
  refine JC.block ?_
  have hll := f_8.1
  refine JC.perm (pick_perm [5, 0, 0, 0, 0, 0] (A := [mb b_1 x_5 m_6, rC x_5.a0 x_5.c0 m_6.s, rS x_5.a1 x_5.c1 m_6.r, rS x_5.a2 x_5.c2 m_6.w, rS l_7a l_7c l_7, bk b_2 32 [.slice none 0 0, .slice none 0 0, .slice none 0 0]]) (F := []) rfl).symm ?_
  refine JC.loop (fun k_ e_ L_ => ∃ j : Nat, ∃ x : MA, ∃ mm : MS, (j ≤ l_7.length) ∧ (mm.ok (S) (T + 1 + j)) ∧ (MS.wipeL (l_7.drop j) mm = MS.wipeL l_7 m_6) ∧ e_ 2 = .pointer (some ⟨b_1, 0, none⟩) ∧ e_ 4 = .pointer (some ⟨b_2, 0, none⟩) ∧ e_ 5 = .slice l_7a l_7.length l_7c ∧ e_ 6 = .int .i64 ((j : Nat) : Int) ∧ L_ = [mb b_1 x mm, rC x.a0 x.c0 mm.s, rS x.a1 x.c1 mm.r, rS x.a2 x.c2 mm.w, rS l_7a l_7c l_7, bk b_2 32 [.slice none 0 0, .slice none 0 0, .slice none 0 0]] ∧ k_ = l_7.length - j) _ ⟨0, x_5, m_6, by omega, (k_4.mono (by omega) (by omega)), rfl, rfl, rfl, rfl, rfl, rfl, rfl⟩ ?_
  rintro _ e_9 _ ⟨j, x, mm, hj, hkmm, hR, he_10, he_11, he_12, he_13, rfl, rfl⟩
  refine JC.seq ?_
  refine JC.seq ?_
  refine JC.region ?_
  refine JL.pure rfl (PO.move (v := .int .i64 ((j : Nat) : Int)) he_13) ?_
  refine JL.pure rfl (PO.move (v := .slice l_7a l_7.length l_7c) he_12) ?_
  refine JL.pure rfl (PO.lenV Tryz.underlying23 rfl) ?_
  refine JL.pure rfl (PO.lss rfl rfl) ?_
  refine JL.nil ?_
  refine JQ.seq ?_
  by_cases h_14 : ((j : Nat) : Int) < ((l_7.length : Nat) : Int)
  · skip
    have hlt : j < l_7.length := by omega
    have hbj := f_8.2 j hlt
    try simp only [List.length_cons, List.length_nil] at hbj
    refine JC.condT (congrArg Value.bool (decide_eq_true h_14)) ?_
    refine JC.skip ?_
    refine JQ.seq ?_
    refine JC.seq ?_
    refine JC.block ?_
    refine JC.regionA [mb b_1 x mm] 5 mixed (by simp) ?_
    refine JA.take 0 rfl (by kernel_rfl) (NP.bl (NP.th (NP.th (NP.bl (NP.th NP.body))))) (by kernel_rfl) (by kernel_rfl) (by kernel_rfl) rfl (LO.loadK 0 (vs := [.slice x.a0 mm.s.length x.c0, .slice x.a1 mm.r.length x.c1, .slice x.a2 mm.w.length x.c2]) rfl he_10 Tryz.isAgg32 Tryz.sizeOf32 rfl rfl) ?_
    refine JA.takeP 1 rfl (by kernel_rfl) (NP.bl (NP.th (NP.th (NP.bl (NP.th NP.body))))) (by kernel_rfl) (by kernel_rfl) rfl (PO.move (v := .slice l_7a l_7.length l_7c) he_12) ?_
    refine JA.takeP 2 rfl (by kernel_rfl) (NP.bl (NP.th (NP.th (NP.bl (NP.th NP.body))))) (by kernel_rfl) (by kernel_rfl) rfl (PO.move (v := .int .i64 ((j : Nat) : Int)) he_13) ?_
    refine JA.facts fun hst => ?_
    obtain ⟨hr_15, hr_15b, -⟩ := row_some 4 rfl (by omega) hst
    refine JA.takeP 3 rfl (by kernel_rfl) (NP.bl (NP.th (NP.th (NP.bl (NP.th NP.body))))) (by kernel_rfl) (by kernel_rfl) rfl (PO.indexAddrV (i := j) Tryz.underlying23 Tryz.sizeOf9 hr_15 hr_15b rfl rfl (by omega)) ?_
    refine JA.one (i := 4) (by kernel_rfl) ?_
    refine JX.op rfl rfl (JO.ofLO (LO.loadR1 4 (v := str (l_7.getD j [])) rfl rfl Tryz.isAgg9 (atS (by omega)))) ?_
    rintro _ _ ⟨rfl, rfl⟩
    refine ⟨(by simp), ?_⟩
    refine JA.one (i := 5) (by kernel_rfl) ?_
    refine JX.late rfl rfl (by decide) (by kernel_rfl) (JO.call [1, 1, 1] Tryz.call232 rfl (N_sLayNil x mm hkmm (by omega) (by omega) (l_7.getD j []) (by omega)) rfl (fun _ _ => trivial)) ?_
    rintro _ _ ⟨_, ⟨x_22, m_23, e_20, k_21, rfl, rfl⟩, rfl⟩
    refine JA.one (i := 6) (by kernel_rfl) ?_
    refine JX.last rfl rfl (by decide) (by kernel_rfl) (JO.store 3 (vs := [.slice x_22.a0 m_23.s.length x_22.c0, .slice x_22.a1 m_23.r.length x_22.c1, .slice x_22.a2 m_23.w.length x_22.c2]) (cs' := [.slice x_22.a0 m_23.s.length x_22.c0, .slice x_22.a1 m_23.r.length x_22.c1, .slice x_22.a2 m_23.w.length x_22.c2]) rfl he_10 rfl rfl Tryz.sizeOf32 rfl rfl (Nat.le_of_ble_eq_true rfl) rfl) ?_
    rintro _ _ rfl
    refine JQ.blockN ?_
    refine JQ.seq ?_
    refine JC.region ?_
    refine JL.pure rfl (PO.move (v := .int .i64 ((j : Nat) : Int)) he_13) ?_
    refine JL.pure rfl (PO.add (c := ((j + 1 : Nat) : Int)) rfl rfl (wr (by omega))) ?_
    refine JL.pure rfl (PO.assign (v := .int .i64 ((j + 1 : Nat) : Int)) rfl) ?_
    refine JL.nil ?_
    refine JQ.pick [3, 0, 0, 0, 0, 0] (A := [mb b_1 x_22 m_23, rC x_22.a0 x_22.c0 m_23.s, rS x_22.a1 x_22.c1 m_23.r, rS x_22.a2 x_22.c2 m_23.w, rS l_7a l_7c l_7, bk b_2 32 [.slice none 0 0, .slice none 0 0, .slice none 0 0]]) rfl ?_
    refine JQ.again (l_7.length - (j + 1)) (by omega) ⟨j + 1, x_22, m_23, by omega, (k_21.mono (by omega) (by omega)), (by rw [drop_at (getD_some (d := []) hlt)] at hR; simp only [MS.wipeL, e_3, h_14, e_20, if_true, if_false, Bool.false_eq_true, Bool.not_true, Bool.not_false] at hR; (repeat (first | rw [if_pos (by omega)] at hR | rw [if_neg (by omega)] at hR)); exact hR), he_10, he_11, he_12, rfl, rfl, rfl⟩
  · skip
    rw [List.drop_of_length_le (by omega)] at hR
    simp only [MS.wipeL] at hR
    have hE := hR.symm
    refine JC.condF (congrArg Value.bool (decide_eq_false h_14)) ?_
    refine JC.exit ?_
    refine JQ.thenExit ?_
    refine JQ.thenExit ?_
    refine JQ.blockE ?_
    refine JQ.seq ?_
    refine JC.seq ?_
    refine JC.region ?_
    refine JL.ld rfl (LO.loadK 0 (vs := [.slice x.a0 mm.s.length x.c0, .slice x.a1 mm.r.length x.c1, .slice x.a2 mm.w.length x.c2]) rfl he_10 Tryz.isAgg32 Tryz.sizeOf32 rfl rfl) ?_
    refine JL.op rfl (JO.store 5 (vs := [.slice x.a0 mm.s.length x.c0, .slice x.a1 mm.r.length x.c1, .slice x.a2 mm.w.length x.c2]) (cs' := [.slice x.a0 mm.s.length x.c0, .slice x.a1 mm.r.length x.c1, .slice x.a2 mm.w.length x.c2]) rfl he_11 rfl rfl Tryz.sizeOf32 rfl rfl (Nat.le_of_ble_eq_true rfl) rfl) ?_
    rintro _ _ rfl
    refine JL.nil ?_
    refine JQ.seq ?_
    refine JC.ret ?_
    refine JQ.perm (pick_perm [1, 1, 1] (A := [rC x.a0 x.c0 mm.s, rS x.a1 x.c1 mm.r, rS x.a2 x.c2 mm.w]) (F := [mb b_1 x mm, rS l_7a l_7c l_7, mb b_2 x mm]) rfl).symm ?_
    refine Done.one (.inl rfl) rfl (RV.cell1 (LO.loadK 5 (vs := [.slice x.a0 mm.s.length x.c0, .slice x.a1 mm.r.length x.c1, .slice x.a2 mm.w.length x.c2]) rfl he_11 Tryz.isAgg32 Tryz.sizeOf32 rfl rfl) ⟨_, he_11⟩) (List.sublist_append_left [rC x.a0 x.c0 mm.s, rS x.a1 x.c1 mm.r, rS x.a2 x.c2 mm.w] [mb b_1 x mm, rS l_7a l_7c l_7, mb b_2 x mm]) ?_
    exact ⟨x, mm, (by simp only [MS.wipe', e_3, h_14, hE, if_true, if_false, Bool.false_eq_true, Bool.not_true, Bool.not_false]; (repeat (first | rw [if_pos (by omega)] | rw [if_neg (by omega)])); all_goals (first | rfl | simp only [if_true, if_false, Bool.false_eq_true, Bool.not_true, Bool.not_false, e_3, h_14, hE])), (hkmm.mono (by omega) (by omega)), rfl, rfl⟩

theorem N_state (p : Nat) (x : MA) (m : MS) {S T : Nat} (hk : m.ok S T) (hS : S ≤ 90000000) (hT : T ≤ 90000000) (id : Int) (hid : -9223372036854775808 ≤ id ∧ id ≤ 9223372036854775807) :
    Ct Tryz.prog 186 [.pointer (some ⟨p, 0, none⟩), .int .i64 id] (mb p x m :: mr x m) (fun _ => True) (fun v A' => ∃ x' m' r0, MS.state m id = (m', r0) ∧ m'.ok (S) (T + 1) ∧ (0 ≤ r0 ∧ r0 ≤ 999) ∧ v = .int .i64 r0 ∧ A' = mb p x' m' :: mr x' m') := by
  refine Ct.intro Tryz.func186 rfl Tryz.ntmps186 (Nat.le_of_ble_eq_true rfl) fun w0 hpre => ?_
  refine JC.seq ?_
  refine JC.region ?_
  refine JL.pure rfl (PO.assign (v := .int .i64 0) rfl) ?_
  refine JL.nil ?_
  refine JQ.seq ?_
  refine JC.seq ?_
  refine JC.region ?_
  refine JL.pure rfl (PO.move (v := .pointer (some ⟨p, 0, none⟩)) rfl) ?_
  refine JL.pure rfl (PO.move (v := .int .i64 id) rfl) ?_
  refine JL.op rfl (JO.call [] Tryz.call266 rfl (N_procKey id [47, 115] (by omega) (show List.length ([47, 115] : Str) ≤ 2 by decide) (by omega)) rfl (fun _ _ => trivial)) ?_
  rintro _ _ ⟨_, ⟨u_3, e_1, f_4, rfl, rfl⟩, rfl⟩
  refine JL.op rfl (JO.call [0, 0, 0, 0] Tryz.call170 rfl (N_num p x m hk (by omega) (by omega) u_3) rfl (fun _ _ => trivial)) ?_
  rintro _ _ ⟨_, ⟨x_7, m_8, n_9, e_5, k_6, f_10, rfl, rfl⟩, rfl⟩
  refine JL.pure rfl (PO.assign (v := .int .i64 n_9) rfl) ?_
  refine JL.nil ?_
  refine JQ.seq ?_
  refine JC.ret ?_
  refine Done.one (.inl rfl) rfl (RV.tmp (v := .int .i64 n_9) rfl) (List.Sublist.refl _) ?_
  exact ⟨x_7, m_8, n_9, (by simp only [MS.state, e_1, e_5, if_true, if_false, Bool.false_eq_true, Bool.not_true, Bool.not_false]; (repeat (first | rw [if_pos (by omega)] | rw [if_neg (by omega)])); all_goals (first | rfl | simp only [if_true, if_false, Bool.false_eq_true, Bool.not_true, Bool.not_false, e_1, e_5])), (k_6.mono (by omega) (by omega)), (by first | omega | (simp only [List.length_append, List.length_cons, List.length_nil, List.length_take, List.length_drop]; omega)), rfl, rfl⟩

theorem M_state (x : MA) (m : MS) {S T : Nat} (hk : m.ok S T) (hS : S ≤ 90000000) (hT : T ≤ 90000000) (id : Int) (hid : -9223372036854775808 ≤ id ∧ id ≤ 9223372036854775807) :
    Ct Tryz.prog 187 [mv x m, .int .i64 id] (mr x m) (fun _ => True) (fun v A' => ∃ x' m' r0, MS.state m id = (m', r0) ∧ m'.ok (S) (T + 1) ∧ (0 ≤ r0 ∧ r0 ≤ 999) ∧ v = .tuple #[mv x' m', .int .i64 r0] ∧ A' = mr x' m') := by
  refine Ct.intro Tryz.func187 rfl Tryz.ntmps187 (Nat.le_of_ble_eq_true rfl) fun w0 hpre => ?_
  refine JC.seq ?_
  refine JC.region ?_
  refine JL.op rfl (JO.box (cs := [.slice x.a0 m.s.length x.c0, .slice x.a1 m.r.length x.c1, .slice x.a2 m.w.length x.c2]) rfl rfl) ?_
  rintro _ _ ⟨b_1, rfl, rfl⟩
  refine JL.op rfl (JO.alloc (z := .agg #[.slice none 0 0, .slice none 0 0, .slice none 0 0]) (cs := [.slice none 0 0, .slice none 0 0, .slice none 0 0]) Tryz.zeroValue32 rfl) ?_
  rintro _ _ ⟨b_2, rfl, rfl⟩
  refine JL.pure rfl (PO.assign (v := .int .i64 0) rfl) ?_
  refine JL.nil ?_
  refine JQ.seq ?_
  refine JC.seq ?_
  refine JC.regionA [mb b_1 x m] 6 mixed (by simp) ?_
  refine JA.take 0 rfl (by kernel_rfl) (NP.th NP.body) (by kernel_rfl) (by kernel_rfl) (by kernel_rfl) rfl (LO.loadK 0 (vs := [.slice x.a0 m.s.length x.c0, .slice x.a1 m.r.length x.c1, .slice x.a2 m.w.length x.c2]) rfl rfl Tryz.isAgg32 Tryz.sizeOf32 rfl rfl) ?_
  refine JA.takeP 1 rfl (by kernel_rfl) (NP.th NP.body) (by kernel_rfl) (by kernel_rfl) rfl (PO.move (v := .int .i64 id) rfl) ?_
  refine JA.one (i := 2) (by kernel_rfl) ?_
  refine JX.op rfl rfl (JO.call [] Tryz.call267 rfl (N_l09Key id [47, 115] (by omega) (show List.length ([47, 115] : Str) ≤ 2 by decide) (by omega)) rfl (fun _ _ => trivial)) ?_
  rintro _ _ ⟨_, ⟨u_9, e_7, f_10, rfl, rfl⟩, rfl⟩
  refine ⟨(by simp), ?_⟩
  refine JA.one (i := 3) (by kernel_rfl) ?_
  refine JX.op rfl rfl (JO.call [2, 2, 2] Tryz.call228 rfl (N_sNumAt x m hk (by omega) (by omega) u_9) rfl (fun _ _ => trivial)) ?_
  rintro _ _ ⟨_, ⟨x_19, m_20, n_21, e_17, k_18, f_22, rfl, rfl⟩, rfl⟩
  refine ⟨(by simp), ?_⟩
  refine JA.takeP 4 rfl (by kernel_rfl) (NP.th NP.body) (by kernel_rfl) (by kernel_rfl) rfl (PO.extract (v := mv x_19 m_20) rfl rfl) ?_
  refine JA.takeP 5 rfl (by kernel_rfl) (NP.th NP.body) (by kernel_rfl) (by kernel_rfl) rfl (PO.extract (v := .int .i64 n_21) rfl rfl) ?_
  refine JA.one (i := 6) (by kernel_rfl) ?_
  refine JX.late rfl rfl (by decide) (by kernel_rfl) (JO.store 3 (vs := [.slice x_19.a0 m_20.s.length x_19.c0, .slice x_19.a1 m_20.r.length x_19.c1, .slice x_19.a2 m_20.w.length x_19.c2]) (cs' := [.slice x_19.a0 m_20.s.length x_19.c0, .slice x_19.a1 m_20.r.length x_19.c1, .slice x_19.a2 m_20.w.length x_19.c2]) rfl rfl rfl rfl Tryz.sizeOf32 rfl rfl (Nat.le_of_ble_eq_true rfl) rfl) ?_
  rintro _ _ rfl
  refine JA.takeP 7 rfl (by kernel_rfl) (NP.th NP.body) (by kernel_rfl) (by kernel_rfl) rfl (PO.assign (v := .int .i64 n_21) rfl) ?_
  refine JA.done (by kernel_rfl) ?_
  refine JQ.seq ?_
  refine JC.ret ?_
  refine Done.two (.inl rfl) rfl (RV.cell1 (LO.loadK 3 (vs := [.slice x_19.a0 m_20.s.length x_19.c0, .slice x_19.a1 m_20.r.length x_19.c1, .slice x_19.a2 m_20.w.length x_19.c2]) rfl rfl Tryz.isAgg32 Tryz.sizeOf32 rfl rfl) ⟨_, rfl⟩) (RV.tmp (v := .int .i64 n_21) rfl) (List.sublist_append_left [rC x_19.a0 x_19.c0 m_20.s, rS x_19.a1 x_19.c1 m_20.r, rS x_19.a2 x_19.c2 m_20.w] [mb b_2 x_19 m_20, mb b_1 x m]) ?_
  exact ⟨x_19, m_20, n_21, (by simp only [MS.state, e_7, e_17, if_true, if_false, Bool.false_eq_true, Bool.not_true, Bool.not_false]; (repeat (first | rw [if_pos (by omega)] | rw [if_neg (by omega)])); all_goals (first | rfl | simp only [if_true, if_false, Bool.false_eq_true, Bool.not_true, Bool.not_false, e_7, e_17])), (k_18.mono (by omega) (by omega)), (by first | omega | (simp only [List.length_append, List.length_cons, List.length_nil, List.length_take, List.length_drop]; omega)), rfl, rfl⟩

theorem P_state (x : MA) (m : MS) {S T : Nat} (hk : m.ok S T) (hS : S ≤ 89000000) (hT : T ≤ 89000000) (id : Int) (hid : -9223372036854775808 ≤ id ∧ id ≤ 9223372036854775807) :
    Ct Tryz.prog 77 [mv x m, .int .i64 id] ([]) (fun w => seesM w x m) (fun v A' => ∃ x' m' r0, MS.state m id = (m', r0) ∧ m'.ok (S) (T + 1) ∧ (0 ≤ r0 ∧ r0 ≤ 999) ∧ v = .tuple #[mv x' m', .int .i64 r0] ∧ A' = mr x' m') := by
  refine Ct.intro Tryz.func77 rfl Tryz.ntmps77 (Nat.le_of_ble_eq_true rfl) fun w0 hpre => ?_
  have hs_x_a0 : Sees w0 _ _ _ _ := hpre.1
  have hs_x_a1 : Sees w0 _ _ _ _ := hpre.2.1
  have hs_x_a2 : Sees w0 _ _ _ _ := hpre.2.2
  refine JC.seq ?_
  refine JC.region ?_
  refine JL.op rfl (JO.box (cs := [.slice x.a0 m.s.length x.c0, .slice x.a1 m.r.length x.c1, .slice x.a2 m.w.length x.c2]) rfl rfl) ?_
  rintro _ _ ⟨b_1, rfl, rfl⟩
  refine JL.op rfl (JO.alloc (z := .agg #[.slice none 0 0, .slice none 0 0, .slice none 0 0]) (cs := [.slice none 0 0, .slice none 0 0, .slice none 0 0]) Tryz.zeroValue32 rfl) ?_
  rintro _ _ ⟨b_2, rfl, rfl⟩
  refine JL.pure rfl (PO.assign (v := .int .i64 0) rfl) ?_
  refine JL.nil ?_
  refine JQ.seq ?_
  refine JC.seq ?_
  refine JC.region ?_
  refine JL.ld rfl (LO.loadK 1 (vs := [.slice x.a0 m.s.length x.c0, .slice x.a1 m.r.length x.c1, .slice x.a2 m.w.length x.c2]) rfl rfl Tryz.isAgg32 Tryz.sizeOf32 rfl rfl) ?_
  refine JL.op rfl (JO.call [] Tryz.call127 rfl (N_clone x m hk (by omega) (by omega)) rfl (fun w hw => ⟨hw.seeOut_ hs_x_a0 (fun _ _ => List.not_mem_nil), hw.seeOut_ hs_x_a1 (fun _ _ => List.not_mem_nil), hw.seeOut_ hs_x_a2 (fun _ _ => List.not_mem_nil)⟩)) ?_
  rintro _ _ ⟨_, ⟨x_5, m_6, rfl, k_4, rfl, rfl⟩, rfl⟩
  refine JL.op rfl (JO.store 4 (vs := [.slice x_5.a0 m.s.length x_5.c0, .slice x_5.a1 m.r.length x_5.c1, .slice x_5.a2 m.w.length x_5.c2]) (cs' := [.slice x_5.a0 m.s.length x_5.c0, .slice x_5.a1 m.r.length x_5.c1, .slice x_5.a2 m.w.length x_5.c2]) rfl rfl rfl rfl Tryz.sizeOf32 rfl rfl (Nat.le_of_ble_eq_true rfl) rfl) ?_
  rintro _ _ rfl
  refine JL.nil ?_
  refine JQ.seq ?_
  refine JC.seq ?_
  refine JC.region ?_
  refine JL.pure rfl (PO.move (v := .int .i64 id) rfl) ?_
  refine JL.op rfl (JO.call [4, 0, 0, 0] Tryz.call186 rfl (N_state b_1 x_5 m k_4 (by omega) (by omega) id (by omega)) rfl (fun _ _ => trivial)) ?_
  rintro _ _ ⟨_, ⟨x_9, m_10, n_11, e_7, k_8, f_12, rfl, rfl⟩, rfl⟩
  refine JL.pure rfl (PO.assign (v := .int .i64 n_11) rfl) ?_
  refine JL.nil ?_
  refine JQ.seq ?_
  refine JC.seq ?_
  refine JC.region ?_
  refine JL.ld rfl (LO.loadK 0 (vs := [.slice x_9.a0 m_10.s.length x_9.c0, .slice x_9.a1 m_10.r.length x_9.c1, .slice x_9.a2 m_10.w.length x_9.c2]) rfl rfl Tryz.isAgg32 Tryz.sizeOf32 rfl rfl) ?_
  refine JL.pure rfl (PO.move (v := .int .i64 n_11) rfl) ?_
  refine JL.op rfl (JO.store 4 (vs := [.slice x_9.a0 m_10.s.length x_9.c0, .slice x_9.a1 m_10.r.length x_9.c1, .slice x_9.a2 m_10.w.length x_9.c2]) (cs' := [.slice x_9.a0 m_10.s.length x_9.c0, .slice x_9.a1 m_10.r.length x_9.c1, .slice x_9.a2 m_10.w.length x_9.c2]) rfl rfl rfl rfl Tryz.sizeOf32 rfl rfl (Nat.le_of_ble_eq_true rfl) rfl) ?_
  rintro _ _ rfl
  refine JL.pure rfl (PO.assign (v := .int .i64 n_11) rfl) ?_
  refine JL.nil ?_
  refine JQ.seq ?_
  refine JC.ret ?_
  refine JQ.perm (pick_perm [1, 1, 1] (A := [rC x_9.a0 x_9.c0 m_10.s, rS x_9.a1 x_9.c1 m_10.r, rS x_9.a2 x_9.c2 m_10.w]) (F := [mb b_1 x_9 m_10, mb b_2 x_9 m_10]) rfl).symm ?_
  refine Done.two (.inl rfl) rfl (RV.cell1 (LO.loadK 4 (vs := [.slice x_9.a0 m_10.s.length x_9.c0, .slice x_9.a1 m_10.r.length x_9.c1, .slice x_9.a2 m_10.w.length x_9.c2]) rfl rfl Tryz.isAgg32 Tryz.sizeOf32 rfl rfl) ⟨_, rfl⟩) (RV.tmp (v := .int .i64 n_11) rfl) (List.sublist_append_left [rC x_9.a0 x_9.c0 m_10.s, rS x_9.a1 x_9.c1 m_10.r, rS x_9.a2 x_9.c2 m_10.w] [mb b_1 x_9 m_10, mb b_2 x_9 m_10]) ?_
  exact ⟨x_9, m_10, n_11, (by simp only [if_true, e_7, if_true, if_false, Bool.false_eq_true, Bool.not_true, Bool.not_false]; (repeat (first | rw [if_pos (by omega)] | rw [if_neg (by omega)])); all_goals (first | rfl | simp only [if_true, if_false, Bool.false_eq_true, Bool.not_true, Bool.not_false, e_7])), (k_8.mono (by omega) (by omega)), (by first | omega | (simp only [List.length_append, List.length_cons, List.length_nil, List.length_take, List.length_drop]; omega)), rfl, rfl⟩

theorem Q_state (x : MA) (m : MS) {S T : Nat} (hk : m.ok S T) (hS : S ≤ 89000000) (hT : T ≤ 89000000) (id : Int) (hid : -9223372036854775808 ≤ id ∧ id ≤ 9223372036854775807) :
    Ct Tryz.prog 78 [mv x m, .int .i64 id] ([]) (fun w => seesM w x m) (fun v A' => ∃ x' m' r0, MS.state m id = (m', r0) ∧ m'.ok (S) (T + 1) ∧ (0 ≤ r0 ∧ r0 ≤ 999) ∧ v = .tuple #[mv x' m', .int .i64 r0] ∧ A' = mr x' m') := by
  refine Ct.intro Tryz.func78 rfl Tryz.ntmps78 (Nat.le_of_ble_eq_true rfl) fun w0 hpre => ?_
  have hs_x_a0 : Sees w0 _ _ _ _ := hpre.1
  have hs_x_a1 : Sees w0 _ _ _ _ := hpre.2.1
  have hs_x_a2 : Sees w0 _ _ _ _ := hpre.2.2
  refine JC.seq ?_
  refine JC.region ?_
  refine JL.op rfl (JO.box (cs := [.slice x.a0 m.s.length x.c0, .slice x.a1 m.r.length x.c1, .slice x.a2 m.w.length x.c2]) rfl rfl) ?_
  rintro _ _ ⟨b_1, rfl, rfl⟩
  refine JL.op rfl (JO.alloc (z := .agg #[.slice none 0 0, .slice none 0 0, .slice none 0 0]) (cs := [.slice none 0 0, .slice none 0 0, .slice none 0 0]) Tryz.zeroValue32 rfl) ?_
  rintro _ _ ⟨b_2, rfl, rfl⟩
  refine JL.pure rfl (PO.assign (v := .int .i64 0) rfl) ?_
  refine JL.nil ?_
  refine JQ.seq ?_
  refine JC.seq ?_
  refine JC.region ?_
  refine JL.ld rfl (LO.loadK 1 (vs := [.slice x.a0 m.s.length x.c0, .slice x.a1 m.r.length x.c1, .slice x.a2 m.w.length x.c2]) rfl rfl Tryz.isAgg32 Tryz.sizeOf32 rfl rfl) ?_
  refine JL.op rfl (JO.call [] Tryz.call124 rfl (N_copy x m hk (by omega) (by omega)) rfl (fun w hw => ⟨hw.seeOut_ hs_x_a0 (fun _ _ => List.not_mem_nil), hw.seeOut_ hs_x_a1 (fun _ _ => List.not_mem_nil), hw.seeOut_ hs_x_a2 (fun _ _ => List.not_mem_nil)⟩)) ?_
  rintro _ _ ⟨_, ⟨x_5, m_6, rfl, k_4, rfl, rfl⟩, rfl⟩
  refine JL.pure rfl (PO.move (v := .int .i64 id) rfl) ?_
  refine JL.op rfl (JO.call [0, 0, 0] Tryz.call187 rfl (M_state x_5 m k_4 (by omega) (by omega) id (by omega)) rfl (fun _ _ => trivial)) ?_
  rintro _ _ ⟨_, ⟨x_9, m_10, n_11, e_7, k_8, f_12, rfl, rfl⟩, rfl⟩
  refine JL.pure rfl (PO.extract (v := mv x_9 m_10) rfl rfl) ?_
  refine JL.pure rfl (PO.extract (v := .int .i64 n_11) rfl rfl) ?_
  refine JL.op rfl (JO.store 3 (vs := [.slice x_9.a0 m_10.s.length x_9.c0, .slice x_9.a1 m_10.r.length x_9.c1, .slice x_9.a2 m_10.w.length x_9.c2]) (cs' := [.slice x_9.a0 m_10.s.length x_9.c0, .slice x_9.a1 m_10.r.length x_9.c1, .slice x_9.a2 m_10.w.length x_9.c2]) rfl rfl rfl rfl Tryz.sizeOf32 rfl rfl (Nat.le_of_ble_eq_true rfl) rfl) ?_
  rintro _ _ rfl
  refine JL.pure rfl (PO.assign (v := .int .i64 n_11) rfl) ?_
  refine JL.nil ?_
  refine JQ.seq ?_
  refine JC.ret ?_
  refine Done.two (.inl rfl) rfl (RV.cell1 (LO.loadK 3 (vs := [.slice x_9.a0 m_10.s.length x_9.c0, .slice x_9.a1 m_10.r.length x_9.c1, .slice x_9.a2 m_10.w.length x_9.c2]) rfl rfl Tryz.isAgg32 Tryz.sizeOf32 rfl rfl) ⟨_, rfl⟩) (RV.tmp (v := .int .i64 n_11) rfl) (List.sublist_append_left [rC x_9.a0 x_9.c0 m_10.s, rS x_9.a1 x_9.c1 m_10.r, rS x_9.a2 x_9.c2 m_10.w] [mb b_2 x_9 m_10, mb b_1 x m]) ?_
  exact ⟨x_9, m_10, n_11, (by simp only [if_true, e_7, if_true, if_false, Bool.false_eq_true, Bool.not_true, Bool.not_false]; (repeat (first | rw [if_pos (by omega)] | rw [if_neg (by omega)])); all_goals (first | rfl | simp only [if_true, if_false, Bool.false_eq_true, Bool.not_true, Bool.not_false, e_7])), (k_8.mono (by omega) (by omega)), (by first | omega | (simp only [List.length_append, List.length_cons, List.length_nil, List.length_take, List.length_drop]; omega)), rfl, rfl⟩

theorem N_spawn (p : Nat) (x : MA) (m : MS) {S T : Nat} (hk : m.ok S T) (hS : S ≤ 50000000) (hT : T ≤ 50000000) (parent : Int) (hparent : -9223372036854775808 ≤ parent ∧ parent ≤ 9223372036854775807) :
    Ct Tryz.prog 176 [.pointer (some ⟨p, 0, none⟩), .int .i64 parent] (mb p x m :: mr x m) (fun _ => True) (fun v A' => ∃ x' m' r0 r1, MS.spawn m parent = (m', r0, r1) ∧ m'.ok (S + 3) (T + 4) ∧ (0 ≤ r0 ∧ r0 ≤ 999) ∧ (0 ≤ r1 ∧ r1 ≤ 9) ∧ v = .tuple #[.int .i64 r0, .int .i64 r1] ∧ A' = mb p x' m' :: mr x' m') := by
  refine Ct.intro Tryz.func176 rfl Tryz.ntmps176 (Nat.le_of_ble_eq_true rfl) fun w0 hpre => ?_
  refine JC.seq ?_
  refine JC.region ?_
  refine JL.pure rfl (PO.assign (v := .int .i64 0) rfl) ?_
  refine JL.pure rfl (PO.assign (v := .int .i64 0) rfl) ?_
  refine JL.nil ?_
  refine JQ.seq ?_
  refine JC.seq ?_
  refine JC.seq ?_
  refine JC.region ?_
  refine JL.pure rfl (PO.move (v := .pointer (some ⟨p, 0, none⟩)) rfl) ?_
  refine JL.op rfl (JO.call [0, 0, 0, 0] Tryz.call170 rfl (N_num p x m hk (by omega) (by omega) [99, 47, 112, 114, 111, 99]) rfl (fun _ _ => trivial)) ?_
  rintro _ _ ⟨_, ⟨x_3, m_4, n_5, e_1, k_2, f_6, rfl, rfl⟩, rfl⟩
  refine JL.pure rfl (PO.geq rfl rfl) ?_
  refine JL.nil ?_
  refine JQ.seq ?_
  by_cases h_7 : 12 ≤ n_5
  · skip
    refine JC.condT (congrArg Value.bool (decide_eq_true h_7)) ?_
    refine JC.seq ?_
    refine JC.region ?_
    refine JL.pure rfl (PO.assign (v := .int .i64 0) rfl) ?_
    refine JL.pure rfl (PO.assign (v := .int .i64 3) rfl) ?_
    refine JL.nil ?_
    refine JQ.seq ?_
    refine JC.ret ?_
    refine JQ.thenRet ?_
    refine Done.two (.inl rfl) rfl (RV.tmp (v := .int .i64 0) rfl) (RV.tmp (v := .int .i64 3) rfl) (List.Sublist.refl _) ?_
    exact ⟨x_3, m_4, 0, 3, (by simp only [MS.spawn, e_1, h_7, if_true, if_false, Bool.false_eq_true, Bool.not_true, Bool.not_false]; (repeat (first | rw [if_pos (by omega)] | rw [if_neg (by omega)])); all_goals (first | rfl | simp only [if_true, if_false, Bool.false_eq_true, Bool.not_true, Bool.not_false, e_1, h_7])), (k_2.mono (by omega) (by omega)), (by first | omega | (simp only [List.length_append, List.length_cons, List.length_nil, List.length_take, List.length_drop]; omega)), (by first | omega | (simp only [List.length_append, List.length_cons, List.length_nil, List.length_take, List.length_drop]; omega)), rfl, rfl⟩
  · skip
    refine JC.condF (congrArg Value.bool (decide_eq_false h_7)) ?_
    refine JC.skip ?_
    refine JQ.seq ?_
    refine JC.seq ?_
    refine JC.region ?_
    refine JL.pure rfl (PO.move (v := .pointer (some ⟨p, 0, none⟩)) rfl) ?_
    refine JL.op rfl (JO.call [0, 0, 0, 0] Tryz.call252 rfl (N_bump p x_3 m_4 k_2 (by omega) (by omega) [99, 47, 112, 114, 111, 99] (by decide)) rfl (fun _ _ => trivial)) ?_
    rintro _ _ ⟨_, ⟨x_10, m_11, n_12, e_8, k_9, f_13, rfl, rfl⟩, rfl⟩
    refine JL.pure rfl (PO.assign (v := .int .i64 n_12) rfl) ?_
    refine JL.nil ?_
    refine JQ.seq ?_
    refine JC.seq ?_
    refine JC.region ?_
    refine JL.pure rfl (PO.move (v := .pointer (some ⟨p, 0, none⟩)) rfl) ?_
    refine JL.pure rfl (PO.move (v := .int .i64 n_12) rfl) ?_
    refine JL.op rfl (JO.call [] Tryz.call266 rfl (N_procKey n_12 [47, 115] (by omega) (show List.length ([47, 115] : Str) ≤ 2 by decide) (by omega)) rfl (fun _ _ => trivial)) ?_
    rintro _ _ ⟨_, ⟨u_16, e_14, f_17, rfl, rfl⟩, rfl⟩
    refine JL.op rfl (JO.call [0, 0, 0, 0] Tryz.call241 rfl (N_setNum p x_10 m_11 k_9 (by omega) (by omega) u_16 1 (by omega) (by omega)) rfl (fun _ _ => trivial)) ?_
    rintro _ _ ⟨_, ⟨x_20, m_21, e_18, k_19, rfl, rfl⟩, rfl⟩
    refine JL.nil ?_
    refine JQ.seq ?_
    refine JC.seq ?_
    refine JC.region ?_
    refine JL.pure rfl (PO.move (v := .pointer (some ⟨p, 0, none⟩)) rfl) ?_
    refine JL.pure rfl (PO.move (v := .int .i64 n_12) rfl) ?_
    refine JL.op rfl (JO.call [] Tryz.call266 rfl (N_procKey n_12 [47, 112] (by omega) (show List.length ([47, 112] : Str) ≤ 2 by decide) (by omega)) rfl (fun _ _ => trivial)) ?_
    rintro _ _ ⟨_, ⟨u_24, e_22, f_25, rfl, rfl⟩, rfl⟩
    refine JL.pure rfl (PO.move (v := .int .i64 parent) rfl) ?_
    refine JL.op rfl (JO.call [0, 0, 0, 0] Tryz.call241 rfl (N_setNum p x_20 m_21 k_19 (by omega) (by omega) u_24 parent (by omega) (by omega)) rfl (fun _ _ => trivial)) ?_
    rintro _ _ ⟨_, ⟨x_28, m_29, e_26, k_27, rfl, rfl⟩, rfl⟩
    refine JL.nil ?_
    refine JQ.seq ?_
    refine JC.seq ?_
    refine JC.region ?_
    refine JL.pure rfl (PO.move (v := .int .i64 n_12) rfl) ?_
    refine JL.pure rfl (PO.assign (v := .int .i64 n_12) rfl) ?_
    refine JL.pure rfl (PO.assign (v := .int .i64 0) rfl) ?_
    refine JL.nil ?_
    refine JQ.seq ?_
    refine JC.ret ?_
    refine Done.two (.inl rfl) rfl (RV.tmp (v := .int .i64 n_12) rfl) (RV.tmp (v := .int .i64 0) rfl) (List.Sublist.refl _) ?_
    exact ⟨x_28, m_29, n_12, 0, (by simp only [MS.spawn, e_1, h_7, e_8, e_14, e_18, e_22, e_26, if_true, if_false, Bool.false_eq_true, Bool.not_true, Bool.not_false]; (repeat (first | rw [if_pos (by omega)] | rw [if_neg (by omega)])); all_goals (first | rfl | simp only [if_true, if_false, Bool.false_eq_true, Bool.not_true, Bool.not_false, e_1, h_7, e_8, e_14, e_18, e_22, e_26])), (k_27.mono (by omega) (by omega)), (by first | omega | (simp only [List.length_append, List.length_cons, List.length_nil, List.length_take, List.length_drop]; omega)), (by first | omega | (simp only [List.length_append, List.length_cons, List.length_nil, List.length_take, List.length_drop]; omega)), rfl, rfl⟩

theorem M_spawn (x : MA) (m : MS) {S T : Nat} (hk : m.ok S T) (hS : S ≤ 50000000) (hT : T ≤ 50000000) (parent : Int) (hparent : -9223372036854775808 ≤ parent ∧ parent ≤ 9223372036854775807) :
    Ct Tryz.prog 177 [mv x m, .int .i64 parent] (mr x m) (fun _ => True) (fun v A' => ∃ x' m' r0 r1, MS.spawn m parent = (m', r0, r1) ∧ m'.ok (S + 3) (T + 4) ∧ (0 ≤ r0 ∧ r0 ≤ 999) ∧ (0 ≤ r1 ∧ r1 ≤ 9) ∧ v = .tuple #[mv x' m', .int .i64 r0, .int .i64 r1] ∧ A' = mr x' m') := by
  refine Ct.intro Tryz.func177 rfl Tryz.ntmps177 (Nat.le_of_ble_eq_true rfl) fun w0 hpre => ?_
  refine JC.seq ?_
  refine JC.region ?_
  refine JL.op rfl (JO.box (cs := [.slice x.a0 m.s.length x.c0, .slice x.a1 m.r.length x.c1, .slice x.a2 m.w.length x.c2]) rfl rfl) ?_
  rintro _ _ ⟨b_1, rfl, rfl⟩
  refine JL.op rfl (JO.alloc (z := .agg #[.slice none 0 0, .slice none 0 0, .slice none 0 0]) (cs := [.slice none 0 0, .slice none 0 0, .slice none 0 0]) Tryz.zeroValue32 rfl) ?_
  rintro _ _ ⟨b_2, rfl, rfl⟩
  refine JL.pure rfl (PO.assign (v := .int .i64 0) rfl) ?_
  refine JL.pure rfl (PO.assign (v := .int .i64 0) rfl) ?_
  refine JL.nil ?_
  refine JQ.seq ?_
  refine JC.seq ?_
  refine JC.region ?_
  refine JL.ld rfl (LO.loadK 1 (vs := [.slice x.a0 m.s.length x.c0, .slice x.a1 m.r.length x.c1, .slice x.a2 m.w.length x.c2]) rfl rfl Tryz.isAgg32 Tryz.sizeOf32 rfl rfl) ?_
  refine JL.op rfl (JO.call [2, 2, 2] Tryz.call228 rfl (N_sNumAt x m hk (by omega) (by omega) [99, 47, 112, 114, 111, 99]) rfl (fun _ _ => trivial)) ?_
  rintro _ _ ⟨_, ⟨x_5, m_6, n_7, e_3, k_4, f_8, rfl, rfl⟩, rfl⟩
  refine JL.pure rfl (PO.move (v := .tuple #[mv x_5 m_6, .int .i64 n_7]) rfl) ?_
  refine JL.pure rfl (PO.extract (v := mv x_5 m_6) rfl rfl) ?_
  refine JL.pure rfl (PO.extract (v := .int .i64 n_7) rfl rfl) ?_
  refine JL.op rfl (JO.store 4 (vs := [.slice x_5.a0 m_6.s.length x_5.c0, .slice x_5.a1 m_6.r.length x_5.c1, .slice x_5.a2 m_6.w.length x_5.c2]) (cs' := [.slice x_5.a0 m_6.s.length x_5.c0, .slice x_5.a1 m_6.r.length x_5.c1, .slice x_5.a2 m_6.w.length x_5.c2]) rfl rfl rfl rfl Tryz.sizeOf32 rfl rfl (Nat.le_of_ble_eq_true rfl) rfl) ?_
  rintro _ _ rfl
  refine JL.pure rfl (PO.assign (v := .int .i64 n_7) rfl) ?_
  refine JL.nil ?_
  refine JQ.seq ?_
  refine JC.seq ?_
  refine JC.seq ?_
  refine JC.region ?_
  refine JL.pure rfl (PO.move (v := .int .i64 n_7) rfl) ?_
  refine JL.pure rfl (PO.geq rfl rfl) ?_
  refine JL.nil ?_
  refine JQ.seq ?_
  by_cases h_9 : 12 ≤ n_7
  · skip
    refine JC.condT (congrArg Value.bool (decide_eq_true h_9)) ?_
    refine JC.seq ?_
    refine JC.region ?_
    refine JL.ld rfl (LO.loadK 4 (vs := [.slice x_5.a0 m_6.s.length x_5.c0, .slice x_5.a1 m_6.r.length x_5.c1, .slice x_5.a2 m_6.w.length x_5.c2]) rfl rfl Tryz.isAgg32 Tryz.sizeOf32 rfl rfl) ?_
    refine JL.op rfl (JO.store 3 (vs := [.slice x_5.a0 m_6.s.length x_5.c0, .slice x_5.a1 m_6.r.length x_5.c1, .slice x_5.a2 m_6.w.length x_5.c2]) (cs' := [.slice x_5.a0 m_6.s.length x_5.c0, .slice x_5.a1 m_6.r.length x_5.c1, .slice x_5.a2 m_6.w.length x_5.c2]) rfl rfl rfl rfl Tryz.sizeOf32 rfl rfl (Nat.le_of_ble_eq_true rfl) rfl) ?_
    rintro _ _ rfl
    refine JL.pure rfl (PO.assign (v := .int .i64 0) rfl) ?_
    refine JL.pure rfl (PO.assign (v := .int .i64 3) rfl) ?_
    refine JL.nil ?_
    refine JQ.seq ?_
    refine JC.ret ?_
    refine JQ.thenRet ?_
    refine Done.three (.inl rfl) rfl (RV.cell1 (LO.loadK 3 (vs := [.slice x_5.a0 m_6.s.length x_5.c0, .slice x_5.a1 m_6.r.length x_5.c1, .slice x_5.a2 m_6.w.length x_5.c2]) rfl rfl Tryz.isAgg32 Tryz.sizeOf32 rfl rfl) ⟨_, rfl⟩) (RV.tmp (v := .int .i64 0) rfl) (RV.tmp (v := .int .i64 3) rfl) (List.sublist_append_left [rC x_5.a0 x_5.c0 m_6.s, rS x_5.a1 x_5.c1 m_6.r, rS x_5.a2 x_5.c2 m_6.w] [mb b_2 x_5 m_6, mb b_1 x_5 m_6]) ?_
    exact ⟨x_5, m_6, 0, 3, (by simp only [MS.spawn, e_3, h_9, if_true, if_false, Bool.false_eq_true, Bool.not_true, Bool.not_false]; (repeat (first | rw [if_pos (by omega)] | rw [if_neg (by omega)])); all_goals (first | rfl | simp only [if_true, if_false, Bool.false_eq_true, Bool.not_true, Bool.not_false, e_3, h_9])), (k_4.mono (by omega) (by omega)), (by first | omega | (simp only [List.length_append, List.length_cons, List.length_nil, List.length_take, List.length_drop]; omega)), (by first | omega | (simp only [List.length_append, List.length_cons, List.length_nil, List.length_take, List.length_drop]; omega)), rfl, rfl⟩
  · skip
    refine JC.condF (congrArg Value.bool (decide_eq_false h_9)) ?_
    refine JC.skip ?_
    refine JQ.seq ?_
    refine JC.seq ?_
    refine JC.region ?_
    refine JL.ld rfl (LO.loadK 4 (vs := [.slice x_5.a0 m_6.s.length x_5.c0, .slice x_5.a1 m_6.r.length x_5.c1, .slice x_5.a2 m_6.w.length x_5.c2]) rfl rfl Tryz.isAgg32 Tryz.sizeOf32 rfl rfl) ?_
    refine JL.op rfl (JO.call [0, 0, 0] Tryz.call255 rfl (N_sBump x_5 m_6 k_4 (by omega) (by omega) [99, 47, 112, 114, 111, 99] (by decide)) rfl (fun _ _ => trivial)) ?_
    rintro _ _ ⟨_, ⟨x_12, m_13, n_14, e_10, k_11, f_15, rfl, rfl⟩, rfl⟩
    refine JL.pure rfl (PO.move (v := .tuple #[mv x_12 m_13, .int .i64 n_14]) rfl) ?_
    refine JL.pure rfl (PO.extract (v := mv x_12 m_13) rfl rfl) ?_
    refine JL.pure rfl (PO.extract (v := .int .i64 n_14) rfl rfl) ?_
    refine JL.op rfl (JO.store 4 (vs := [.slice x_12.a0 m_13.s.length x_12.c0, .slice x_12.a1 m_13.r.length x_12.c1, .slice x_12.a2 m_13.w.length x_12.c2]) (cs' := [.slice x_12.a0 m_13.s.length x_12.c0, .slice x_12.a1 m_13.r.length x_12.c1, .slice x_12.a2 m_13.w.length x_12.c2]) rfl rfl rfl rfl Tryz.sizeOf32 rfl rfl (Nat.le_of_ble_eq_true rfl) rfl) ?_
    rintro _ _ rfl
    refine JL.pure rfl (PO.assign (v := .int .i64 n_14) rfl) ?_
    refine JL.nil ?_
    refine JQ.seq ?_
    refine JC.seq ?_
    refine JC.regionA [mb b_1 x_12 m_13] 3 mixed (by simp) ?_
    refine JA.take 0 rfl (by kernel_rfl) (NP.th NP.body) (by kernel_rfl) (by kernel_rfl) (by kernel_rfl) rfl (LO.loadK 0 (vs := [.slice x_12.a0 m_13.s.length x_12.c0, .slice x_12.a1 m_13.r.length x_12.c1, .slice x_12.a2 m_13.w.length x_12.c2]) rfl rfl Tryz.isAgg32 Tryz.sizeOf32 rfl rfl) ?_
    refine JA.takeP 1 rfl (by kernel_rfl) (NP.th NP.body) (by kernel_rfl) (by kernel_rfl) rfl (PO.move (v := .int .i64 n_14) rfl) ?_
    refine JA.one (i := 2) (by kernel_rfl) ?_
    refine JX.op rfl rfl (JO.call [] Tryz.call267 rfl (N_l09Key n_14 [47, 115] (by omega) (show List.length ([47, 115] : Str) ≤ 2 by decide) (by omega)) rfl (fun _ _ => trivial)) ?_
    rintro _ _ ⟨_, ⟨u_22, e_20, f_23, rfl, rfl⟩, rfl⟩
    refine ⟨(by simp), ?_⟩
    refine JA.one (i := 3) (by kernel_rfl) ?_
    refine JX.late rfl rfl (by decide) (by kernel_rfl) (JO.call [0, 0, 0] Tryz.call233 rfl (N_sSetNum x_12 m_13 k_11 (by omega) (by omega) u_22 1 (by omega) (by omega)) rfl (fun _ _ => trivial)) ?_
    rintro _ _ ⟨_, ⟨x_30, m_31, e_28, k_29, rfl, rfl⟩, rfl⟩
    refine JA.one (i := 4) (by kernel_rfl) ?_
    refine JX.last rfl rfl (by decide) (by kernel_rfl) (JO.store 4 (vs := [.slice x_30.a0 m_31.s.length x_30.c0, .slice x_30.a1 m_31.r.length x_30.c1, .slice x_30.a2 m_31.w.length x_30.c2]) (cs' := [.slice x_30.a0 m_31.s.length x_30.c0, .slice x_30.a1 m_31.r.length x_30.c1, .slice x_30.a2 m_31.w.length x_30.c2]) rfl rfl rfl rfl Tryz.sizeOf32 rfl rfl (Nat.le_of_ble_eq_true rfl) rfl) ?_
    rintro _ _ rfl
    refine JQ.seq ?_
    refine JC.seq ?_
    refine JC.regionA [mb b_1 x_30 m_31] 6 mixed (by simp) ?_
    refine JA.take 0 rfl (by kernel_rfl) (NP.th NP.body) (by kernel_rfl) (by kernel_rfl) (by kernel_rfl) rfl (LO.loadK 0 (vs := [.slice x_30.a0 m_31.s.length x_30.c0, .slice x_30.a1 m_31.r.length x_30.c1, .slice x_30.a2 m_31.w.length x_30.c2]) rfl rfl Tryz.isAgg32 Tryz.sizeOf32 rfl rfl) ?_
    refine JA.takeP 1 rfl (by kernel_rfl) (NP.th NP.body) (by kernel_rfl) (by kernel_rfl) rfl (PO.move (v := .int .i64 n_14) rfl) ?_
    refine JA.takeP 3 rfl (by kernel_rfl) (NP.th NP.body) (by kernel_rfl) (by kernel_rfl) rfl (PO.move (v := .int .i64 parent) rfl) ?_
    refine JA.takeP 5 rfl (by kernel_rfl) (NP.th NP.body) (by kernel_rfl) (by kernel_rfl) rfl (PO.move (v := .int .i64 n_14) rfl) ?_
    refine JA.one (i := 2) (by kernel_rfl) ?_
    refine JX.op rfl rfl (JO.call [] Tryz.call267 rfl (N_l09Key n_14 [47, 112] (by omega) (show List.length ([47, 112] : Str) ≤ 2 by decide) (by omega)) rfl (fun _ _ => trivial)) ?_
    rintro _ _ ⟨_, ⟨u_46, e_44, f_47, rfl, rfl⟩, rfl⟩
    refine ⟨(by simp), ?_⟩
    refine JA.one (i := 4) (by kernel_rfl) ?_
    refine JX.op rfl rfl (JO.call [0, 0, 0] Tryz.call233 rfl (N_sSetNum x_30 m_31 k_29 (by omega) (by omega) u_46 parent (by omega) (by omega)) rfl (fun _ _ => trivial)) ?_
    rintro _ _ ⟨_, ⟨x_54, m_55, e_52, k_53, rfl, rfl⟩, rfl⟩
    refine ⟨(by simp), ?_⟩
    refine JA.one (i := 6) (by kernel_rfl) ?_
    refine JX.late rfl rfl (by decide) (by kernel_rfl) (JO.store 3 (vs := [.slice x_54.a0 m_55.s.length x_54.c0, .slice x_54.a1 m_55.r.length x_54.c1, .slice x_54.a2 m_55.w.length x_54.c2]) (cs' := [.slice x_54.a0 m_55.s.length x_54.c0, .slice x_54.a1 m_55.r.length x_54.c1, .slice x_54.a2 m_55.w.length x_54.c2]) rfl rfl rfl rfl Tryz.sizeOf32 rfl rfl (Nat.le_of_ble_eq_true rfl) rfl) ?_
    rintro _ _ rfl
    refine JA.takeP 7 rfl (by kernel_rfl) (NP.th NP.body) (by kernel_rfl) (by kernel_rfl) rfl (PO.assign (v := .int .i64 n_14) rfl) ?_
    refine JA.takeP 8 rfl (by kernel_rfl) (NP.th NP.body) (by kernel_rfl) (by kernel_rfl) rfl (PO.assign (v := .int .i64 0) rfl) ?_
    refine JA.done (by kernel_rfl) ?_
    refine JQ.seq ?_
    refine JC.ret ?_
    refine Done.three (.inl rfl) rfl (RV.cell1 (LO.loadK 3 (vs := [.slice x_54.a0 m_55.s.length x_54.c0, .slice x_54.a1 m_55.r.length x_54.c1, .slice x_54.a2 m_55.w.length x_54.c2]) rfl rfl Tryz.isAgg32 Tryz.sizeOf32 rfl rfl) ⟨_, rfl⟩) (RV.tmp (v := .int .i64 n_14) rfl) (RV.tmp (v := .int .i64 0) rfl) (List.sublist_append_left [rC x_54.a0 x_54.c0 m_55.s, rS x_54.a1 x_54.c1 m_55.r, rS x_54.a2 x_54.c2 m_55.w] [mb b_2 x_54 m_55, mb b_1 x_30 m_31]) ?_
    exact ⟨x_54, m_55, n_14, 0, (by simp only [MS.spawn, e_3, h_9, e_10, e_20, e_28, e_44, e_52, if_true, if_false, Bool.false_eq_true, Bool.not_true, Bool.not_false]; (repeat (first | rw [if_pos (by omega)] | rw [if_neg (by omega)])); all_goals (first | rfl | simp only [if_true, if_false, Bool.false_eq_true, Bool.not_true, Bool.not_false, e_3, h_9, e_10, e_20, e_28, e_44, e_52])), (k_53.mono (by omega) (by omega)), (by first | omega | (simp only [List.length_append, List.length_cons, List.length_nil, List.length_take, List.length_drop]; omega)), (by first | omega | (simp only [List.length_append, List.length_cons, List.length_nil, List.length_take, List.length_drop]; omega)), rfl, rfl⟩

theorem P_spawn (x : MA) (m : MS) {S T : Nat} (hk : m.ok S T) (hS : S ≤ 49000000) (hT : T ≤ 49000000) (parent : Int) (hparent : -9223372036854775808 ≤ parent ∧ parent ≤ 9223372036854775807) :
    Ct Tryz.prog 66 [mv x m, .int .i64 parent] ([]) (fun w => seesM w x m) (fun v A' => ∃ x' m' r0 r1, MS.spawn m parent = (m', r0, r1) ∧ m'.ok (S + 3) (T + 4) ∧ (0 ≤ r0 ∧ r0 ≤ 999) ∧ (0 ≤ r1 ∧ r1 ≤ 9) ∧ v = .tuple #[mv x' m', .int .i64 r0, .int .i64 r1] ∧ A' = mr x' m') := by
  refine Ct.intro Tryz.func66 rfl Tryz.ntmps66 (Nat.le_of_ble_eq_true rfl) fun w0 hpre => ?_
  have hs_x_a0 : Sees w0 _ _ _ _ := hpre.1
  have hs_x_a1 : Sees w0 _ _ _ _ := hpre.2.1
  have hs_x_a2 : Sees w0 _ _ _ _ := hpre.2.2
  refine JC.seq ?_
  refine JC.region ?_
  refine JL.op rfl (JO.box (cs := [.slice x.a0 m.s.length x.c0, .slice x.a1 m.r.length x.c1, .slice x.a2 m.w.length x.c2]) rfl rfl) ?_
  rintro _ _ ⟨b_1, rfl, rfl⟩
  refine JL.op rfl (JO.alloc (z := .agg #[.slice none 0 0, .slice none 0 0, .slice none 0 0]) (cs := [.slice none 0 0, .slice none 0 0, .slice none 0 0]) Tryz.zeroValue32 rfl) ?_
  rintro _ _ ⟨b_2, rfl, rfl⟩
  refine JL.pure rfl (PO.assign (v := .int .i64 0) rfl) ?_
  refine JL.pure rfl (PO.assign (v := .int .i64 0) rfl) ?_
  refine JL.nil ?_
  refine JQ.seq ?_
  refine JC.seq ?_
  refine JC.region ?_
  refine JL.ld rfl (LO.loadK 1 (vs := [.slice x.a0 m.s.length x.c0, .slice x.a1 m.r.length x.c1, .slice x.a2 m.w.length x.c2]) rfl rfl Tryz.isAgg32 Tryz.sizeOf32 rfl rfl) ?_
  refine JL.op rfl (JO.call [] Tryz.call127 rfl (N_clone x m hk (by omega) (by omega)) rfl (fun w hw => ⟨hw.seeOut_ hs_x_a0 (fun _ _ => List.not_mem_nil), hw.seeOut_ hs_x_a1 (fun _ _ => List.not_mem_nil), hw.seeOut_ hs_x_a2 (fun _ _ => List.not_mem_nil)⟩)) ?_
  rintro _ _ ⟨_, ⟨x_5, m_6, rfl, k_4, rfl, rfl⟩, rfl⟩
  refine JL.op rfl (JO.store 4 (vs := [.slice x_5.a0 m.s.length x_5.c0, .slice x_5.a1 m.r.length x_5.c1, .slice x_5.a2 m.w.length x_5.c2]) (cs' := [.slice x_5.a0 m.s.length x_5.c0, .slice x_5.a1 m.r.length x_5.c1, .slice x_5.a2 m.w.length x_5.c2]) rfl rfl rfl rfl Tryz.sizeOf32 rfl rfl (Nat.le_of_ble_eq_true rfl) rfl) ?_
  rintro _ _ rfl
  refine JL.nil ?_
  refine JQ.seq ?_
  refine JC.seq ?_
  refine JC.region ?_
  refine JL.pure rfl (PO.move (v := .int .i64 parent) rfl) ?_
  refine JL.op rfl (JO.call [4, 0, 0, 0] Tryz.call176 rfl (N_spawn b_1 x_5 m k_4 (by omega) (by omega) parent (by omega)) rfl (fun _ _ => trivial)) ?_
  rintro _ _ ⟨_, ⟨x_9, m_10, n_11, n_13, e_7, k_8, f_12, f_14, rfl, rfl⟩, rfl⟩
  refine JL.pure rfl (PO.move (v := .tuple #[.int .i64 n_11, .int .i64 n_13]) rfl) ?_
  refine JL.pure rfl (PO.extract (v := .int .i64 n_11) rfl rfl) ?_
  refine JL.pure rfl (PO.extract (v := .int .i64 n_13) rfl rfl) ?_
  refine JL.pure rfl (PO.assign (v := .int .i64 n_11) rfl) ?_
  refine JL.pure rfl (PO.assign (v := .int .i64 n_13) rfl) ?_
  refine JL.nil ?_
  refine JQ.seq ?_
  refine JC.seq ?_
  refine JC.region ?_
  refine JL.ld rfl (LO.loadK 0 (vs := [.slice x_9.a0 m_10.s.length x_9.c0, .slice x_9.a1 m_10.r.length x_9.c1, .slice x_9.a2 m_10.w.length x_9.c2]) rfl rfl Tryz.isAgg32 Tryz.sizeOf32 rfl rfl) ?_
  refine JL.pure rfl (PO.move (v := .int .i64 n_11) rfl) ?_
  refine JL.pure rfl (PO.move (v := .int .i64 n_13) rfl) ?_
  refine JL.op rfl (JO.store 4 (vs := [.slice x_9.a0 m_10.s.length x_9.c0, .slice x_9.a1 m_10.r.length x_9.c1, .slice x_9.a2 m_10.w.length x_9.c2]) (cs' := [.slice x_9.a0 m_10.s.length x_9.c0, .slice x_9.a1 m_10.r.length x_9.c1, .slice x_9.a2 m_10.w.length x_9.c2]) rfl rfl rfl rfl Tryz.sizeOf32 rfl rfl (Nat.le_of_ble_eq_true rfl) rfl) ?_
  rintro _ _ rfl
  refine JL.pure rfl (PO.assign (v := .int .i64 n_11) rfl) ?_
  refine JL.pure rfl (PO.assign (v := .int .i64 n_13) rfl) ?_
  refine JL.nil ?_
  refine JQ.seq ?_
  refine JC.ret ?_
  refine JQ.perm (pick_perm [1, 1, 1] (A := [rC x_9.a0 x_9.c0 m_10.s, rS x_9.a1 x_9.c1 m_10.r, rS x_9.a2 x_9.c2 m_10.w]) (F := [mb b_1 x_9 m_10, mb b_2 x_9 m_10]) rfl).symm ?_
  refine Done.three (.inl rfl) rfl (RV.cell1 (LO.loadK 4 (vs := [.slice x_9.a0 m_10.s.length x_9.c0, .slice x_9.a1 m_10.r.length x_9.c1, .slice x_9.a2 m_10.w.length x_9.c2]) rfl rfl Tryz.isAgg32 Tryz.sizeOf32 rfl rfl) ⟨_, rfl⟩) (RV.tmp (v := .int .i64 n_11) rfl) (RV.tmp (v := .int .i64 n_13) rfl) (List.sublist_append_left [rC x_9.a0 x_9.c0 m_10.s, rS x_9.a1 x_9.c1 m_10.r, rS x_9.a2 x_9.c2 m_10.w] [mb b_1 x_9 m_10, mb b_2 x_9 m_10]) ?_
  exact ⟨x_9, m_10, n_11, n_13, (by simp only [if_true, e_7, if_true, if_false, Bool.false_eq_true, Bool.not_true, Bool.not_false]; (repeat (first | rw [if_pos (by omega)] | rw [if_neg (by omega)])); all_goals (first | rfl | simp only [if_true, if_false, Bool.false_eq_true, Bool.not_true, Bool.not_false, e_7])), (k_8.mono (by omega) (by omega)), (by first | omega | (simp only [List.length_append, List.length_cons, List.length_nil, List.length_take, List.length_drop]; omega)), (by first | omega | (simp only [List.length_append, List.length_cons, List.length_nil, List.length_take, List.length_drop]; omega)), rfl, rfl⟩

theorem Q_spawn (x : MA) (m : MS) {S T : Nat} (hk : m.ok S T) (hS : S ≤ 49000000) (hT : T ≤ 49000000) (parent : Int) (hparent : -9223372036854775808 ≤ parent ∧ parent ≤ 9223372036854775807) :
    Ct Tryz.prog 67 [mv x m, .int .i64 parent] ([]) (fun w => seesM w x m) (fun v A' => ∃ x' m' r0 r1, MS.spawn m parent = (m', r0, r1) ∧ m'.ok (S + 3) (T + 4) ∧ (0 ≤ r0 ∧ r0 ≤ 999) ∧ (0 ≤ r1 ∧ r1 ≤ 9) ∧ v = .tuple #[mv x' m', .int .i64 r0, .int .i64 r1] ∧ A' = mr x' m') := by
  refine Ct.intro Tryz.func67 rfl Tryz.ntmps67 (Nat.le_of_ble_eq_true rfl) fun w0 hpre => ?_
  have hs_x_a0 : Sees w0 _ _ _ _ := hpre.1
  have hs_x_a1 : Sees w0 _ _ _ _ := hpre.2.1
  have hs_x_a2 : Sees w0 _ _ _ _ := hpre.2.2
  refine JC.seq ?_
  refine JC.region ?_
  refine JL.op rfl (JO.box (cs := [.slice x.a0 m.s.length x.c0, .slice x.a1 m.r.length x.c1, .slice x.a2 m.w.length x.c2]) rfl rfl) ?_
  rintro _ _ ⟨b_1, rfl, rfl⟩
  refine JL.op rfl (JO.alloc (z := .agg #[.slice none 0 0, .slice none 0 0, .slice none 0 0]) (cs := [.slice none 0 0, .slice none 0 0, .slice none 0 0]) Tryz.zeroValue32 rfl) ?_
  rintro _ _ ⟨b_2, rfl, rfl⟩
  refine JL.pure rfl (PO.assign (v := .int .i64 0) rfl) ?_
  refine JL.pure rfl (PO.assign (v := .int .i64 0) rfl) ?_
  refine JL.nil ?_
  refine JQ.seq ?_
  refine JC.seq ?_
  refine JC.region ?_
  refine JL.ld rfl (LO.loadK 1 (vs := [.slice x.a0 m.s.length x.c0, .slice x.a1 m.r.length x.c1, .slice x.a2 m.w.length x.c2]) rfl rfl Tryz.isAgg32 Tryz.sizeOf32 rfl rfl) ?_
  refine JL.op rfl (JO.call [] Tryz.call124 rfl (N_copy x m hk (by omega) (by omega)) rfl (fun w hw => ⟨hw.seeOut_ hs_x_a0 (fun _ _ => List.not_mem_nil), hw.seeOut_ hs_x_a1 (fun _ _ => List.not_mem_nil), hw.seeOut_ hs_x_a2 (fun _ _ => List.not_mem_nil)⟩)) ?_
  rintro _ _ ⟨_, ⟨x_5, m_6, rfl, k_4, rfl, rfl⟩, rfl⟩
  refine JL.pure rfl (PO.move (v := .int .i64 parent) rfl) ?_
  refine JL.op rfl (JO.call [0, 0, 0] Tryz.call177 rfl (M_spawn x_5 m k_4 (by omega) (by omega) parent (by omega)) rfl (fun _ _ => trivial)) ?_
  rintro _ _ ⟨_, ⟨x_9, m_10, n_11, n_13, e_7, k_8, f_12, f_14, rfl, rfl⟩, rfl⟩
  refine JL.pure rfl (PO.extract (v := mv x_9 m_10) rfl rfl) ?_
  refine JL.pure rfl (PO.extract (v := .int .i64 n_11) rfl rfl) ?_
  refine JL.pure rfl (PO.extract (v := .int .i64 n_13) rfl rfl) ?_
  refine JL.op rfl (JO.store 3 (vs := [.slice x_9.a0 m_10.s.length x_9.c0, .slice x_9.a1 m_10.r.length x_9.c1, .slice x_9.a2 m_10.w.length x_9.c2]) (cs' := [.slice x_9.a0 m_10.s.length x_9.c0, .slice x_9.a1 m_10.r.length x_9.c1, .slice x_9.a2 m_10.w.length x_9.c2]) rfl rfl rfl rfl Tryz.sizeOf32 rfl rfl (Nat.le_of_ble_eq_true rfl) rfl) ?_
  rintro _ _ rfl
  refine JL.pure rfl (PO.assign (v := .int .i64 n_11) rfl) ?_
  refine JL.pure rfl (PO.assign (v := .int .i64 n_13) rfl) ?_
  refine JL.nil ?_
  refine JQ.seq ?_
  refine JC.ret ?_
  refine Done.three (.inl rfl) rfl (RV.cell1 (LO.loadK 3 (vs := [.slice x_9.a0 m_10.s.length x_9.c0, .slice x_9.a1 m_10.r.length x_9.c1, .slice x_9.a2 m_10.w.length x_9.c2]) rfl rfl Tryz.isAgg32 Tryz.sizeOf32 rfl rfl) ⟨_, rfl⟩) (RV.tmp (v := .int .i64 n_11) rfl) (RV.tmp (v := .int .i64 n_13) rfl) (List.sublist_append_left [rC x_9.a0 x_9.c0 m_10.s, rS x_9.a1 x_9.c1 m_10.r, rS x_9.a2 x_9.c2 m_10.w] [mb b_2 x_9 m_10, mb b_1 x m]) ?_
  exact ⟨x_9, m_10, n_11, n_13, (by simp only [if_true, e_7, if_true, if_false, Bool.false_eq_true, Bool.not_true, Bool.not_false]; (repeat (first | rw [if_pos (by omega)] | rw [if_neg (by omega)])); all_goals (first | rfl | simp only [if_true, if_false, Bool.false_eq_true, Bool.not_true, Bool.not_false, e_7])), (k_8.mono (by omega) (by omega)), (by first | omega | (simp only [List.length_append, List.length_cons, List.length_nil, List.length_take, List.length_drop]; omega)), (by first | omega | (simp only [List.length_append, List.length_cons, List.length_nil, List.length_take, List.length_drop]; omega)), rfl, rfl⟩

theorem N_end (p : Nat) (x : MA) (m : MS) {S T : Nat} (hk : m.ok S T) (hS : S ≤ 50000000) (hT : T ≤ 50000000) (id : Int) (n : Int) (hid : -9223372036854775808 ≤ id ∧ id ≤ 9223372036854775807) (hn : -9223372036854775808 ≤ n ∧ n ≤ 9223372036854775807) :
    Ct Tryz.prog 180 [.pointer (some ⟨p, 0, none⟩), .int .i64 id, .int .i64 n] (mb p x m :: mr x m) (fun _ => True) (fun v A' => ∃ x' m' r0, MS.endProc m id n = (m', r0) ∧ m'.ok (S + 2) (T + 3) ∧ (0 ≤ r0 ∧ r0 ≤ 9) ∧ v = .int .i64 r0 ∧ A' = mb p x' m' :: mr x' m') := by
  refine Ct.intro Tryz.func180 rfl Tryz.ntmps180 (Nat.le_of_ble_eq_true rfl) fun w0 hpre => ?_
  refine JC.seq ?_
  refine JC.region ?_
  refine JL.pure rfl (PO.assign (v := .int .i64 0) rfl) ?_
  refine JL.nil ?_
  refine JQ.seq ?_
  refine JC.seq ?_
  refine JC.block ?_
  refine JC.seq ?_
  refine JC.region ?_
  refine JL.pure rfl (PO.move (v := .pointer (some ⟨p, 0, none⟩)) rfl) ?_
  refine JL.pure rfl (PO.move (v := .int .i64 id) rfl) ?_
  refine JL.op rfl (JO.call [0, 0, 0, 0] Tryz.call186 rfl (N_state p x m hk (by omega) (by omega) id (by omega)) rfl (fun _ _ => trivial)) ?_
  rintro _ _ ⟨_, ⟨x_3, m_4, n_5, e_1, k_2, f_6, rfl, rfl⟩, rfl⟩
  refine JL.pure rfl (PO.neqI rfl rfl) ?_
  refine JL.pure rfl (PO.assign (v := .bool (!(decide (n_5 = 1)))) rfl) ?_
  refine JL.nil ?_
  refine JQ.seq ?_
  by_cases h_7 : n_5 = 1
  · skip
    refine JC.condF (congrArg Value.bool (congrArg Bool.not (decide_eq_true h_7))) ?_
    refine JC.seq ?_
    refine JC.region ?_
    refine JL.pure rfl (PO.move (v := .int .i64 n) rfl) ?_
    refine JL.op rfl (JO.call [] Tryz.call143 rfl (C_within n 0 100) rfl (fun _ _ => trivial)) ?_
    rintro _ _ ⟨_, ⟨rfl, rfl⟩, rfl⟩
    refine JL.pure rfl (PO.not rfl) ?_
    refine JL.pure rfl (PO.assign (v := .bool (!(decide (0 ≤ n) && decide (n ≤ 100)))) rfl) ?_
    refine JL.nil ?_
    refine JQ.seq ?_
    rcases Bool.eq_false_or_eq_true (decide (0 ≤ n) && decide (n ≤ 100)) with h_8 | h_8
    · skip
      have h_8d := h_8
      simp only [Bool.and_eq_true, Bool.and_eq_false_iff, decide_eq_true_eq, decide_eq_false_iff_not] at h_8d
      refine JC.condF (congrArg Value.bool (congrArg Bool.not h_8)) ?_
      refine JC.skip ?_
      refine JQ.blockN ?_
      refine JQ.seq ?_
      refine JC.seq ?_
      refine JC.region ?_
      refine JL.pure rfl (PO.move (v := .pointer (some ⟨p, 0, none⟩)) rfl) ?_
      refine JL.pure rfl (PO.move (v := .int .i64 id) rfl) ?_
      refine JL.op rfl (JO.call [] Tryz.call266 rfl (N_procKey id [47, 115] (by omega) (show List.length ([47, 115] : Str) ≤ 2 by decide) (by omega)) rfl (fun _ _ => trivial)) ?_
      rintro _ _ ⟨_, ⟨u_11, e_9, f_12, rfl, rfl⟩, rfl⟩
      refine JL.op rfl (JO.call [0, 0, 0, 0] Tryz.call241 rfl (N_setNum p x_3 m_4 k_2 (by omega) (by omega) u_11 2 (by omega) (by omega)) rfl (fun _ _ => trivial)) ?_
      rintro _ _ ⟨_, ⟨x_15, m_16, e_13, k_14, rfl, rfl⟩, rfl⟩
      refine JL.nil ?_
      refine JQ.seq ?_
      refine JC.seq ?_
      refine JC.region ?_
      refine JL.pure rfl (PO.move (v := .pointer (some ⟨p, 0, none⟩)) rfl) ?_
      refine JL.pure rfl (PO.move (v := .int .i64 id) rfl) ?_
      refine JL.op rfl (JO.call [] Tryz.call266 rfl (N_procKey id [47, 120] (by omega) (show List.length ([47, 120] : Str) ≤ 2 by decide) (by omega)) rfl (fun _ _ => trivial)) ?_
      rintro _ _ ⟨_, ⟨u_19, e_17, f_20, rfl, rfl⟩, rfl⟩
      refine JL.pure rfl (PO.move (v := .int .i64 n) rfl) ?_
      refine JL.pure rfl (PO.add (c := n + 1) rfl rfl (wr (by omega))) ?_
      refine JL.op rfl (JO.call [0, 0, 0, 0] Tryz.call241 rfl (N_setNum p x_15 m_16 k_14 (by omega) (by omega) u_19 (n + 1) (by omega) (by omega)) rfl (fun _ _ => trivial)) ?_
      rintro _ _ ⟨_, ⟨x_23, m_24, e_21, k_22, rfl, rfl⟩, rfl⟩
      refine JL.nil ?_
      refine JQ.seq ?_
      refine JC.seq ?_
      refine JC.region ?_
      refine JL.pure rfl (PO.assign (v := .int .i64 0) rfl) ?_
      refine JL.nil ?_
      refine JQ.seq ?_
      refine JC.ret ?_
      refine Done.one (.inl rfl) rfl (RV.tmp (v := .int .i64 0) rfl) (List.Sublist.refl _) ?_
      exact ⟨x_23, m_24, 0, (by simp only [MS.endProc, e_1, h_7, h_8, e_9, e_13, e_17, e_21, if_true, if_false, Bool.false_eq_true, Bool.not_true, Bool.not_false]; (repeat (first | rw [if_pos (by omega)] | rw [if_neg (by omega)])); all_goals (first | rfl | simp only [if_true, if_false, Bool.false_eq_true, Bool.not_true, Bool.not_false, e_1, h_7, h_8, e_9, e_13, e_17, e_21])), (k_22.mono (by omega) (by omega)), (by first | omega | (simp only [List.length_append, List.length_cons, List.length_nil, List.length_take, List.length_drop]; omega)), rfl, rfl⟩
    · skip
      have h_8d := h_8
      simp only [Bool.and_eq_true, Bool.and_eq_false_iff, decide_eq_true_eq, decide_eq_false_iff_not] at h_8d
      refine JC.condT (congrArg Value.bool (congrArg Bool.not h_8)) ?_
      refine JC.seq ?_
      refine JC.region ?_
      refine JL.pure rfl (PO.assign (v := .int .i64 4) rfl) ?_
      refine JL.nil ?_
      refine JQ.seq ?_
      refine JC.ret ?_
      refine JQ.blockRet ?_
      refine JQ.thenRet ?_
      refine Done.one (.inl rfl) rfl (RV.tmp (v := .int .i64 4) rfl) (List.Sublist.refl _) ?_
      exact ⟨x_3, m_4, 4, (by simp only [MS.endProc, e_1, h_7, h_8, if_true, if_false, Bool.false_eq_true, Bool.not_true, Bool.not_false]; (repeat (first | rw [if_pos (by omega)] | rw [if_neg (by omega)])); all_goals (first | rfl | simp only [if_true, if_false, Bool.false_eq_true, Bool.not_true, Bool.not_false, e_1, h_7, h_8])), (k_2.mono (by omega) (by omega)), (by first | omega | (simp only [List.length_append, List.length_cons, List.length_nil, List.length_take, List.length_drop]; omega)), rfl, rfl⟩
  · skip
    refine JC.condT (congrArg Value.bool (congrArg Bool.not (decide_eq_false h_7))) ?_
    refine JC.seq ?_
    refine JC.region ?_
    refine JL.pure rfl (PO.assign (v := .int .i64 2) rfl) ?_
    refine JL.nil ?_
    refine JQ.seq ?_
    refine JC.ret ?_
    refine JQ.blockRet ?_
    refine JQ.thenRet ?_
    refine Done.one (.inl rfl) rfl (RV.tmp (v := .int .i64 2) rfl) (List.Sublist.refl _) ?_
    exact ⟨x_3, m_4, 2, (by simp only [MS.endProc, e_1, h_7, if_true, if_false, Bool.false_eq_true, Bool.not_true, Bool.not_false]; (repeat (first | rw [if_pos (by omega)] | rw [if_neg (by omega)])); all_goals (first | rfl | simp only [if_true, if_false, Bool.false_eq_true, Bool.not_true, Bool.not_false, e_1, h_7])), (k_2.mono (by omega) (by omega)), (by first | omega | (simp only [List.length_append, List.length_cons, List.length_nil, List.length_take, List.length_drop]; omega)), rfl, rfl⟩

theorem M_end (x : MA) (m : MS) {S T : Nat} (hk : m.ok S T) (hS : S ≤ 50000000) (hT : T ≤ 50000000) (id : Int) (n : Int) (hid : -9223372036854775808 ≤ id ∧ id ≤ 9223372036854775807) (hn : -9223372036854775808 ≤ n ∧ n ≤ 9223372036854775807) :
    Ct Tryz.prog 181 [mv x m, .int .i64 id, .int .i64 n] (mr x m) (fun _ => True) (fun v A' => ∃ x' m' r0, MS.endProc m id n = (m', r0) ∧ m'.ok (S + 2) (T + 3) ∧ (0 ≤ r0 ∧ r0 ≤ 9) ∧ v = .tuple #[mv x' m', .int .i64 r0] ∧ A' = mr x' m') := by
  refine Ct.intro Tryz.func181 rfl Tryz.ntmps181 (Nat.le_of_ble_eq_true rfl) fun w0 hpre => ?_
  refine JC.seq ?_
  refine JC.region ?_
  refine JL.op rfl (JO.box (cs := [.slice x.a0 m.s.length x.c0, .slice x.a1 m.r.length x.c1, .slice x.a2 m.w.length x.c2]) rfl rfl) ?_
  rintro _ _ ⟨b_1, rfl, rfl⟩
  refine JL.op rfl (JO.alloc (z := .agg #[.slice none 0 0, .slice none 0 0, .slice none 0 0]) (cs := [.slice none 0 0, .slice none 0 0, .slice none 0 0]) Tryz.zeroValue32 rfl) ?_
  rintro _ _ ⟨b_2, rfl, rfl⟩
  refine JL.pure rfl (PO.assign (v := .int .i64 0) rfl) ?_
  refine JL.nil ?_
  refine JQ.seq ?_
  refine JC.seq ?_
  refine JC.region ?_
  refine JL.ld rfl (LO.loadK 1 (vs := [.slice x.a0 m.s.length x.c0, .slice x.a1 m.r.length x.c1, .slice x.a2 m.w.length x.c2]) rfl rfl Tryz.isAgg32 Tryz.sizeOf32 rfl rfl) ?_
  refine JL.pure rfl (PO.move (v := .int .i64 id) rfl) ?_
  refine JL.op rfl (JO.call [2, 2, 2] Tryz.call187 rfl (M_state x m hk (by omega) (by omega) id (by omega)) rfl (fun _ _ => trivial)) ?_
  rintro _ _ ⟨_, ⟨x_5, m_6, n_7, e_3, k_4, f_8, rfl, rfl⟩, rfl⟩
  refine JL.pure rfl (PO.move (v := .tuple #[mv x_5 m_6, .int .i64 n_7]) rfl) ?_
  refine JL.pure rfl (PO.extract (v := mv x_5 m_6) rfl rfl) ?_
  refine JL.pure rfl (PO.extract (v := .int .i64 n_7) rfl rfl) ?_
  refine JL.op rfl (JO.store 4 (vs := [.slice x_5.a0 m_6.s.length x_5.c0, .slice x_5.a1 m_6.r.length x_5.c1, .slice x_5.a2 m_6.w.length x_5.c2]) (cs' := [.slice x_5.a0 m_6.s.length x_5.c0, .slice x_5.a1 m_6.r.length x_5.c1, .slice x_5.a2 m_6.w.length x_5.c2]) rfl rfl rfl rfl Tryz.sizeOf32 rfl rfl (Nat.le_of_ble_eq_true rfl) rfl) ?_
  rintro _ _ rfl
  refine JL.pure rfl (PO.assign (v := .int .i64 n_7) rfl) ?_
  refine JL.nil ?_
  refine JQ.seq ?_
  refine JC.seq ?_
  refine JC.seq ?_
  refine JC.region ?_
  refine JL.pure rfl (PO.move (v := .int .i64 n_7) rfl) ?_
  refine JL.pure rfl (PO.neqI rfl rfl) ?_
  refine JL.nil ?_
  refine JQ.seq ?_
  by_cases h_9 : n_7 = 1
  · skip
    refine JC.condF (congrArg Value.bool (congrArg Bool.not (decide_eq_true h_9))) ?_
    refine JC.skip ?_
    refine JQ.seq ?_
    refine JC.seq ?_
    refine JC.seq ?_
    refine JC.region ?_
    refine JL.pure rfl (PO.move (v := .int .i64 n) rfl) ?_
    refine JL.op rfl (JO.call [] Tryz.call144 rfl (C_l01In n 0 100) rfl (fun _ _ => trivial)) ?_
    rintro _ _ ⟨_, ⟨rfl, rfl⟩, rfl⟩
    refine JL.pure rfl (PO.not rfl) ?_
    refine JL.nil ?_
    refine JQ.seq ?_
    rcases Bool.eq_false_or_eq_true (decide (0 ≤ n) && decide (n ≤ 100)) with h_10 | h_10
    · skip
      have h_10d := h_10
      simp only [Bool.and_eq_true, Bool.and_eq_false_iff, decide_eq_true_eq, decide_eq_false_iff_not] at h_10d
      refine JC.condF (congrArg Value.bool (congrArg Bool.not h_10)) ?_
      refine JC.skip ?_
      refine JQ.seq ?_
      refine JC.seq ?_
      refine JC.regionA [mb b_1 x_5 m_6] 3 mixed (by simp) ?_
      refine JA.take 0 rfl (by kernel_rfl) (NP.th NP.body) (by kernel_rfl) (by kernel_rfl) (by kernel_rfl) rfl (LO.loadK 0 (vs := [.slice x_5.a0 m_6.s.length x_5.c0, .slice x_5.a1 m_6.r.length x_5.c1, .slice x_5.a2 m_6.w.length x_5.c2]) rfl rfl Tryz.isAgg32 Tryz.sizeOf32 rfl rfl) ?_
      refine JA.takeP 1 rfl (by kernel_rfl) (NP.th NP.body) (by kernel_rfl) (by kernel_rfl) rfl (PO.move (v := .int .i64 id) rfl) ?_
      refine JA.one (i := 2) (by kernel_rfl) ?_
      refine JX.op rfl rfl (JO.call [] Tryz.call267 rfl (N_l09Key id [47, 115] (by omega) (show List.length ([47, 115] : Str) ≤ 2 by decide) (by omega)) rfl (fun _ _ => trivial)) ?_
      rintro _ _ ⟨_, ⟨u_17, e_15, f_18, rfl, rfl⟩, rfl⟩
      refine ⟨(by simp), ?_⟩
      refine JA.one (i := 3) (by kernel_rfl) ?_
      refine JX.late rfl rfl (by decide) (by kernel_rfl) (JO.call [0, 0, 0] Tryz.call233 rfl (N_sSetNum x_5 m_6 k_4 (by omega) (by omega) u_17 2 (by omega) (by omega)) rfl (fun _ _ => trivial)) ?_
      rintro _ _ ⟨_, ⟨x_25, m_26, e_23, k_24, rfl, rfl⟩, rfl⟩
      refine JA.one (i := 4) (by kernel_rfl) ?_
      refine JX.last rfl rfl (by decide) (by kernel_rfl) (JO.store 4 (vs := [.slice x_25.a0 m_26.s.length x_25.c0, .slice x_25.a1 m_26.r.length x_25.c1, .slice x_25.a2 m_26.w.length x_25.c2]) (cs' := [.slice x_25.a0 m_26.s.length x_25.c0, .slice x_25.a1 m_26.r.length x_25.c1, .slice x_25.a2 m_26.w.length x_25.c2]) rfl rfl rfl rfl Tryz.sizeOf32 rfl rfl (Nat.le_of_ble_eq_true rfl) rfl) ?_
      rintro _ _ rfl
      refine JQ.seq ?_
      refine JC.seq ?_
      refine JC.regionA [mb b_1 x_25 m_26] 5 mixed (by simp) ?_
      refine JA.take 0 rfl (by kernel_rfl) (NP.th NP.body) (by kernel_rfl) (by kernel_rfl) (by kernel_rfl) rfl (LO.loadK 0 (vs := [.slice x_25.a0 m_26.s.length x_25.c0, .slice x_25.a1 m_26.r.length x_25.c1, .slice x_25.a2 m_26.w.length x_25.c2]) rfl rfl Tryz.isAgg32 Tryz.sizeOf32 rfl rfl) ?_
      refine JA.takeP 1 rfl (by kernel_rfl) (NP.th NP.body) (by kernel_rfl) (by kernel_rfl) rfl (PO.move (v := .int .i64 id) rfl) ?_
      refine JA.takeP 3 rfl (by kernel_rfl) (NP.th NP.body) (by kernel_rfl) (by kernel_rfl) rfl (PO.move (v := .int .i64 n) rfl) ?_
      refine JA.takeP 4 rfl (by kernel_rfl) (NP.th NP.body) (by kernel_rfl) (by kernel_rfl) rfl (PO.add (c := n + 1) rfl rfl (wr (by omega))) ?_
      refine JA.one (i := 2) (by kernel_rfl) ?_
      refine JX.op rfl rfl (JO.call [] Tryz.call267 rfl (N_l09Key id [47, 120] (by omega) (show List.length ([47, 120] : Str) ≤ 2 by decide) (by omega)) rfl (fun _ _ => trivial)) ?_
      rintro _ _ ⟨_, ⟨u_41, e_39, f_42, rfl, rfl⟩, rfl⟩
      refine ⟨(by simp), ?_⟩
      refine JA.one (i := 5) (by kernel_rfl) ?_
      refine JX.late rfl rfl (by decide) (by kernel_rfl) (JO.call [0, 0, 0] Tryz.call233 rfl (N_sSetNum x_25 m_26 k_24 (by omega) (by omega) u_41 (n + 1) (by omega) (by omega)) rfl (fun _ _ => trivial)) ?_
      rintro _ _ ⟨_, ⟨x_49, m_50, e_47, k_48, rfl, rfl⟩, rfl⟩
      refine JA.one (i := 6) (by kernel_rfl) ?_
      refine JX.late rfl rfl (by decide) (by kernel_rfl) (JO.store 3 (vs := [.slice x_49.a0 m_50.s.length x_49.c0, .slice x_49.a1 m_50.r.length x_49.c1, .slice x_49.a2 m_50.w.length x_49.c2]) (cs' := [.slice x_49.a0 m_50.s.length x_49.c0, .slice x_49.a1 m_50.r.length x_49.c1, .slice x_49.a2 m_50.w.length x_49.c2]) rfl rfl rfl rfl Tryz.sizeOf32 rfl rfl (Nat.le_of_ble_eq_true rfl) rfl) ?_
      rintro _ _ rfl
      refine JA.takeP 7 rfl (by kernel_rfl) (NP.th NP.body) (by kernel_rfl) (by kernel_rfl) rfl (PO.assign (v := .int .i64 0) rfl) ?_
      refine JA.done (by kernel_rfl) ?_
      refine JQ.seq ?_
      refine JC.ret ?_
      refine Done.two (.inl rfl) rfl (RV.cell1 (LO.loadK 3 (vs := [.slice x_49.a0 m_50.s.length x_49.c0, .slice x_49.a1 m_50.r.length x_49.c1, .slice x_49.a2 m_50.w.length x_49.c2]) rfl rfl Tryz.isAgg32 Tryz.sizeOf32 rfl rfl) ⟨_, rfl⟩) (RV.tmp (v := .int .i64 0) rfl) (List.sublist_append_left [rC x_49.a0 x_49.c0 m_50.s, rS x_49.a1 x_49.c1 m_50.r, rS x_49.a2 x_49.c2 m_50.w] [mb b_2 x_49 m_50, mb b_1 x_25 m_26]) ?_
      exact ⟨x_49, m_50, 0, (by simp only [MS.endProc, e_3, h_9, h_10, e_15, e_23, e_39, e_47, if_true, if_false, Bool.false_eq_true, Bool.not_true, Bool.not_false]; (repeat (first | rw [if_pos (by omega)] | rw [if_neg (by omega)])); all_goals (first | rfl | simp only [if_true, if_false, Bool.false_eq_true, Bool.not_true, Bool.not_false, e_3, h_9, h_10, e_15, e_23, e_39, e_47])), (k_48.mono (by omega) (by omega)), (by first | omega | (simp only [List.length_append, List.length_cons, List.length_nil, List.length_take, List.length_drop]; omega)), rfl, rfl⟩
    · skip
      have h_10d := h_10
      simp only [Bool.and_eq_true, Bool.and_eq_false_iff, decide_eq_true_eq, decide_eq_false_iff_not] at h_10d
      refine JC.condT (congrArg Value.bool (congrArg Bool.not h_10)) ?_
      refine JC.seq ?_
      refine JC.region ?_
      refine JL.ld rfl (LO.loadK 4 (vs := [.slice x_5.a0 m_6.s.length x_5.c0, .slice x_5.a1 m_6.r.length x_5.c1, .slice x_5.a2 m_6.w.length x_5.c2]) rfl rfl Tryz.isAgg32 Tryz.sizeOf32 rfl rfl) ?_
      refine JL.op rfl (JO.store 3 (vs := [.slice x_5.a0 m_6.s.length x_5.c0, .slice x_5.a1 m_6.r.length x_5.c1, .slice x_5.a2 m_6.w.length x_5.c2]) (cs' := [.slice x_5.a0 m_6.s.length x_5.c0, .slice x_5.a1 m_6.r.length x_5.c1, .slice x_5.a2 m_6.w.length x_5.c2]) rfl rfl rfl rfl Tryz.sizeOf32 rfl rfl (Nat.le_of_ble_eq_true rfl) rfl) ?_
      rintro _ _ rfl
      refine JL.pure rfl (PO.assign (v := .int .i64 4) rfl) ?_
      refine JL.nil ?_
      refine JQ.seq ?_
      refine JC.ret ?_
      refine JQ.thenRet ?_
      refine Done.two (.inl rfl) rfl (RV.cell1 (LO.loadK 3 (vs := [.slice x_5.a0 m_6.s.length x_5.c0, .slice x_5.a1 m_6.r.length x_5.c1, .slice x_5.a2 m_6.w.length x_5.c2]) rfl rfl Tryz.isAgg32 Tryz.sizeOf32 rfl rfl) ⟨_, rfl⟩) (RV.tmp (v := .int .i64 4) rfl) (List.sublist_append_left [rC x_5.a0 x_5.c0 m_6.s, rS x_5.a1 x_5.c1 m_6.r, rS x_5.a2 x_5.c2 m_6.w] [mb b_2 x_5 m_6, mb b_1 x_5 m_6]) ?_
      exact ⟨x_5, m_6, 4, (by simp only [MS.endProc, e_3, h_9, h_10, if_true, if_false, Bool.false_eq_true, Bool.not_true, Bool.not_false]; (repeat (first | rw [if_pos (by omega)] | rw [if_neg (by omega)])); all_goals (first | rfl | simp only [if_true, if_false, Bool.false_eq_true, Bool.not_true, Bool.not_false, e_3, h_9, h_10])), (k_4.mono (by omega) (by omega)), (by first | omega | (simp only [List.length_append, List.length_cons, List.length_nil, List.length_take, List.length_drop]; omega)), rfl, rfl⟩
  · skip
    refine JC.condT (congrArg Value.bool (congrArg Bool.not (decide_eq_false h_9))) ?_
    refine JC.seq ?_
    refine JC.region ?_
    refine JL.ld rfl (LO.loadK 4 (vs := [.slice x_5.a0 m_6.s.length x_5.c0, .slice x_5.a1 m_6.r.length x_5.c1, .slice x_5.a2 m_6.w.length x_5.c2]) rfl rfl Tryz.isAgg32 Tryz.sizeOf32 rfl rfl) ?_
    refine JL.op rfl (JO.store 3 (vs := [.slice x_5.a0 m_6.s.length x_5.c0, .slice x_5.a1 m_6.r.length x_5.c1, .slice x_5.a2 m_6.w.length x_5.c2]) (cs' := [.slice x_5.a0 m_6.s.length x_5.c0, .slice x_5.a1 m_6.r.length x_5.c1, .slice x_5.a2 m_6.w.length x_5.c2]) rfl rfl rfl rfl Tryz.sizeOf32 rfl rfl (Nat.le_of_ble_eq_true rfl) rfl) ?_
    rintro _ _ rfl
    refine JL.pure rfl (PO.assign (v := .int .i64 2) rfl) ?_
    refine JL.nil ?_
    refine JQ.seq ?_
    refine JC.ret ?_
    refine JQ.thenRet ?_
    refine Done.two (.inl rfl) rfl (RV.cell1 (LO.loadK 3 (vs := [.slice x_5.a0 m_6.s.length x_5.c0, .slice x_5.a1 m_6.r.length x_5.c1, .slice x_5.a2 m_6.w.length x_5.c2]) rfl rfl Tryz.isAgg32 Tryz.sizeOf32 rfl rfl) ⟨_, rfl⟩) (RV.tmp (v := .int .i64 2) rfl) (List.sublist_append_left [rC x_5.a0 x_5.c0 m_6.s, rS x_5.a1 x_5.c1 m_6.r, rS x_5.a2 x_5.c2 m_6.w] [mb b_2 x_5 m_6, mb b_1 x_5 m_6]) ?_
    exact ⟨x_5, m_6, 2, (by simp only [MS.endProc, e_3, h_9, if_true, if_false, Bool.false_eq_true, Bool.not_true, Bool.not_false]; (repeat (first | rw [if_pos (by omega)] | rw [if_neg (by omega)])); all_goals (first | rfl | simp only [if_true, if_false, Bool.false_eq_true, Bool.not_true, Bool.not_false, e_3, h_9])), (k_4.mono (by omega) (by omega)), (by first | omega | (simp only [List.length_append, List.length_cons, List.length_nil, List.length_take, List.length_drop]; omega)), rfl, rfl⟩

theorem P_end (x : MA) (m : MS) {S T : Nat} (hk : m.ok S T) (hS : S ≤ 49000000) (hT : T ≤ 49000000) (id : Int) (n : Int) (hid : -9223372036854775808 ≤ id ∧ id ≤ 9223372036854775807) (hn : -9223372036854775808 ≤ n ∧ n ≤ 9223372036854775807) :
    Ct Tryz.prog 69 [mv x m, .int .i64 id, .int .i64 n] ([]) (fun w => seesM w x m) (fun v A' => ∃ x' m' r0, MS.endProc m id n = (m', r0) ∧ m'.ok (S + 2) (T + 3) ∧ (0 ≤ r0 ∧ r0 ≤ 9) ∧ v = .tuple #[mv x' m', .int .i64 r0] ∧ A' = mr x' m') := by
  refine Ct.intro Tryz.func69 rfl Tryz.ntmps69 (Nat.le_of_ble_eq_true rfl) fun w0 hpre => ?_
  have hs_x_a0 : Sees w0 _ _ _ _ := hpre.1
  have hs_x_a1 : Sees w0 _ _ _ _ := hpre.2.1
  have hs_x_a2 : Sees w0 _ _ _ _ := hpre.2.2
  refine JC.seq ?_
  refine JC.region ?_
  refine JL.op rfl (JO.box (cs := [.slice x.a0 m.s.length x.c0, .slice x.a1 m.r.length x.c1, .slice x.a2 m.w.length x.c2]) rfl rfl) ?_
  rintro _ _ ⟨b_1, rfl, rfl⟩
  refine JL.op rfl (JO.alloc (z := .agg #[.slice none 0 0, .slice none 0 0, .slice none 0 0]) (cs := [.slice none 0 0, .slice none 0 0, .slice none 0 0]) Tryz.zeroValue32 rfl) ?_
  rintro _ _ ⟨b_2, rfl, rfl⟩
  refine JL.pure rfl (PO.assign (v := .int .i64 0) rfl) ?_
  refine JL.nil ?_
  refine JQ.seq ?_
  refine JC.seq ?_
  refine JC.region ?_
  refine JL.ld rfl (LO.loadK 1 (vs := [.slice x.a0 m.s.length x.c0, .slice x.a1 m.r.length x.c1, .slice x.a2 m.w.length x.c2]) rfl rfl Tryz.isAgg32 Tryz.sizeOf32 rfl rfl) ?_
  refine JL.op rfl (JO.call [] Tryz.call127 rfl (N_clone x m hk (by omega) (by omega)) rfl (fun w hw => ⟨hw.seeOut_ hs_x_a0 (fun _ _ => List.not_mem_nil), hw.seeOut_ hs_x_a1 (fun _ _ => List.not_mem_nil), hw.seeOut_ hs_x_a2 (fun _ _ => List.not_mem_nil)⟩)) ?_
  rintro _ _ ⟨_, ⟨x_5, m_6, rfl, k_4, rfl, rfl⟩, rfl⟩
  refine JL.op rfl (JO.store 4 (vs := [.slice x_5.a0 m.s.length x_5.c0, .slice x_5.a1 m.r.length x_5.c1, .slice x_5.a2 m.w.length x_5.c2]) (cs' := [.slice x_5.a0 m.s.length x_5.c0, .slice x_5.a1 m.r.length x_5.c1, .slice x_5.a2 m.w.length x_5.c2]) rfl rfl rfl rfl Tryz.sizeOf32 rfl rfl (Nat.le_of_ble_eq_true rfl) rfl) ?_
  rintro _ _ rfl
  refine JL.nil ?_
  refine JQ.seq ?_
  refine JC.seq ?_
  refine JC.region ?_
  refine JL.pure rfl (PO.move (v := .int .i64 id) rfl) ?_
  refine JL.pure rfl (PO.move (v := .int .i64 n) rfl) ?_
  refine JL.op rfl (JO.call [4, 0, 0, 0] Tryz.call180 rfl (N_end b_1 x_5 m k_4 (by omega) (by omega) id n (by omega) (by omega)) rfl (fun _ _ => trivial)) ?_
  rintro _ _ ⟨_, ⟨x_9, m_10, n_11, e_7, k_8, f_12, rfl, rfl⟩, rfl⟩
  refine JL.pure rfl (PO.assign (v := .int .i64 n_11) rfl) ?_
  refine JL.nil ?_
  refine JQ.seq ?_
  refine JC.seq ?_
  refine JC.region ?_
  refine JL.ld rfl (LO.loadK 0 (vs := [.slice x_9.a0 m_10.s.length x_9.c0, .slice x_9.a1 m_10.r.length x_9.c1, .slice x_9.a2 m_10.w.length x_9.c2]) rfl rfl Tryz.isAgg32 Tryz.sizeOf32 rfl rfl) ?_
  refine JL.pure rfl (PO.move (v := .int .i64 n_11) rfl) ?_
  refine JL.op rfl (JO.store 4 (vs := [.slice x_9.a0 m_10.s.length x_9.c0, .slice x_9.a1 m_10.r.length x_9.c1, .slice x_9.a2 m_10.w.length x_9.c2]) (cs' := [.slice x_9.a0 m_10.s.length x_9.c0, .slice x_9.a1 m_10.r.length x_9.c1, .slice x_9.a2 m_10.w.length x_9.c2]) rfl rfl rfl rfl Tryz.sizeOf32 rfl rfl (Nat.le_of_ble_eq_true rfl) rfl) ?_
  rintro _ _ rfl
  refine JL.pure rfl (PO.assign (v := .int .i64 n_11) rfl) ?_
  refine JL.nil ?_
  refine JQ.seq ?_
  refine JC.ret ?_
  refine JQ.perm (pick_perm [1, 1, 1] (A := [rC x_9.a0 x_9.c0 m_10.s, rS x_9.a1 x_9.c1 m_10.r, rS x_9.a2 x_9.c2 m_10.w]) (F := [mb b_1 x_9 m_10, mb b_2 x_9 m_10]) rfl).symm ?_
  refine Done.two (.inl rfl) rfl (RV.cell1 (LO.loadK 4 (vs := [.slice x_9.a0 m_10.s.length x_9.c0, .slice x_9.a1 m_10.r.length x_9.c1, .slice x_9.a2 m_10.w.length x_9.c2]) rfl rfl Tryz.isAgg32 Tryz.sizeOf32 rfl rfl) ⟨_, rfl⟩) (RV.tmp (v := .int .i64 n_11) rfl) (List.sublist_append_left [rC x_9.a0 x_9.c0 m_10.s, rS x_9.a1 x_9.c1 m_10.r, rS x_9.a2 x_9.c2 m_10.w] [mb b_1 x_9 m_10, mb b_2 x_9 m_10]) ?_
  exact ⟨x_9, m_10, n_11, (by simp only [if_true, e_7, if_true, if_false, Bool.false_eq_true, Bool.not_true, Bool.not_false]; (repeat (first | rw [if_pos (by omega)] | rw [if_neg (by omega)])); all_goals (first | rfl | simp only [if_true, if_false, Bool.false_eq_true, Bool.not_true, Bool.not_false, e_7])), (k_8.mono (by omega) (by omega)), (by first | omega | (simp only [List.length_append, List.length_cons, List.length_nil, List.length_take, List.length_drop]; omega)), rfl, rfl⟩

theorem Q_end (x : MA) (m : MS) {S T : Nat} (hk : m.ok S T) (hS : S ≤ 49000000) (hT : T ≤ 49000000) (id : Int) (n : Int) (hid : -9223372036854775808 ≤ id ∧ id ≤ 9223372036854775807) (hn : -9223372036854775808 ≤ n ∧ n ≤ 9223372036854775807) :
    Ct Tryz.prog 70 [mv x m, .int .i64 id, .int .i64 n] ([]) (fun w => seesM w x m) (fun v A' => ∃ x' m' r0, MS.endProc m id n = (m', r0) ∧ m'.ok (S + 2) (T + 3) ∧ (0 ≤ r0 ∧ r0 ≤ 9) ∧ v = .tuple #[mv x' m', .int .i64 r0] ∧ A' = mr x' m') := by
  refine Ct.intro Tryz.func70 rfl Tryz.ntmps70 (Nat.le_of_ble_eq_true rfl) fun w0 hpre => ?_
  have hs_x_a0 : Sees w0 _ _ _ _ := hpre.1
  have hs_x_a1 : Sees w0 _ _ _ _ := hpre.2.1
  have hs_x_a2 : Sees w0 _ _ _ _ := hpre.2.2
  refine JC.seq ?_
  refine JC.region ?_
  refine JL.op rfl (JO.box (cs := [.slice x.a0 m.s.length x.c0, .slice x.a1 m.r.length x.c1, .slice x.a2 m.w.length x.c2]) rfl rfl) ?_
  rintro _ _ ⟨b_1, rfl, rfl⟩
  refine JL.op rfl (JO.alloc (z := .agg #[.slice none 0 0, .slice none 0 0, .slice none 0 0]) (cs := [.slice none 0 0, .slice none 0 0, .slice none 0 0]) Tryz.zeroValue32 rfl) ?_
  rintro _ _ ⟨b_2, rfl, rfl⟩
  refine JL.pure rfl (PO.assign (v := .int .i64 0) rfl) ?_
  refine JL.nil ?_
  refine JQ.seq ?_
  refine JC.seq ?_
  refine JC.region ?_
  refine JL.ld rfl (LO.loadK 1 (vs := [.slice x.a0 m.s.length x.c0, .slice x.a1 m.r.length x.c1, .slice x.a2 m.w.length x.c2]) rfl rfl Tryz.isAgg32 Tryz.sizeOf32 rfl rfl) ?_
  refine JL.op rfl (JO.call [] Tryz.call124 rfl (N_copy x m hk (by omega) (by omega)) rfl (fun w hw => ⟨hw.seeOut_ hs_x_a0 (fun _ _ => List.not_mem_nil), hw.seeOut_ hs_x_a1 (fun _ _ => List.not_mem_nil), hw.seeOut_ hs_x_a2 (fun _ _ => List.not_mem_nil)⟩)) ?_
  rintro _ _ ⟨_, ⟨x_5, m_6, rfl, k_4, rfl, rfl⟩, rfl⟩
  refine JL.pure rfl (PO.move (v := .int .i64 id) rfl) ?_
  refine JL.pure rfl (PO.move (v := .int .i64 n) rfl) ?_
  refine JL.op rfl (JO.call [0, 0, 0] Tryz.call181 rfl (M_end x_5 m k_4 (by omega) (by omega) id n (by omega) (by omega)) rfl (fun _ _ => trivial)) ?_
  rintro _ _ ⟨_, ⟨x_9, m_10, n_11, e_7, k_8, f_12, rfl, rfl⟩, rfl⟩
  refine JL.pure rfl (PO.extract (v := mv x_9 m_10) rfl rfl) ?_
  refine JL.pure rfl (PO.extract (v := .int .i64 n_11) rfl rfl) ?_
  refine JL.op rfl (JO.store 3 (vs := [.slice x_9.a0 m_10.s.length x_9.c0, .slice x_9.a1 m_10.r.length x_9.c1, .slice x_9.a2 m_10.w.length x_9.c2]) (cs' := [.slice x_9.a0 m_10.s.length x_9.c0, .slice x_9.a1 m_10.r.length x_9.c1, .slice x_9.a2 m_10.w.length x_9.c2]) rfl rfl rfl rfl Tryz.sizeOf32 rfl rfl (Nat.le_of_ble_eq_true rfl) rfl) ?_
  rintro _ _ rfl
  refine JL.pure rfl (PO.assign (v := .int .i64 n_11) rfl) ?_
  refine JL.nil ?_
  refine JQ.seq ?_
  refine JC.ret ?_
  refine Done.two (.inl rfl) rfl (RV.cell1 (LO.loadK 3 (vs := [.slice x_9.a0 m_10.s.length x_9.c0, .slice x_9.a1 m_10.r.length x_9.c1, .slice x_9.a2 m_10.w.length x_9.c2]) rfl rfl Tryz.isAgg32 Tryz.sizeOf32 rfl rfl) ⟨_, rfl⟩) (RV.tmp (v := .int .i64 n_11) rfl) (List.sublist_append_left [rC x_9.a0 x_9.c0 m_10.s, rS x_9.a1 x_9.c1 m_10.r, rS x_9.a2 x_9.c2 m_10.w] [mb b_2 x_9 m_10, mb b_1 x m]) ?_
  exact ⟨x_9, m_10, n_11, (by simp only [if_true, e_7, if_true, if_false, Bool.false_eq_true, Bool.not_true, Bool.not_false]; (repeat (first | rw [if_pos (by omega)] | rw [if_neg (by omega)])); all_goals (first | rfl | simp only [if_true, if_false, Bool.false_eq_true, Bool.not_true, Bool.not_false, e_7])), (k_8.mono (by omega) (by omega)), (by first | omega | (simp only [List.length_append, List.length_cons, List.length_nil, List.length_take, List.length_drop]; omega)), rfl, rfl⟩

theorem N_reap (p : Nat) (x : MA) (m : MS) {S T : Nat} (hk : m.ok S T) (hS : S ≤ 50000000) (hT : T ≤ 50000000) (parent : Int) (id : Int) (hparent : -9223372036854775808 ≤ parent ∧ parent ≤ 9223372036854775807) (hid : -9223372036854775808 ≤ id ∧ id ≤ 9223372036854775807) :
    Ct Tryz.prog 182 [.pointer (some ⟨p, 0, none⟩), .int .i64 parent, .int .i64 id] (mb p x m :: mr x m) (fun _ => True) (fun v A' => ∃ x' m' r0 r1, MS.reap m parent id = (m', r0, r1) ∧ m'.ok (S) (T + S + 5) ∧ (-1 ≤ r0 ∧ r0 ≤ 999) ∧ (0 ≤ r1 ∧ r1 ≤ 9) ∧ v = .tuple #[.int .i64 r0, .int .i64 r1] ∧ A' = mb p x' m' :: mr x' m') := by
  refine Ct.intro Tryz.func182 rfl Tryz.ntmps182 (Nat.le_of_ble_eq_true rfl) fun w0 hpre => ?_
  refine JC.seq ?_
  refine JC.region ?_
  refine JL.pure rfl (PO.assign (v := .int .i64 0) rfl) ?_
  refine JL.pure rfl (PO.assign (v := .int .i64 0) rfl) ?_
  refine JL.nil ?_
  refine JQ.seq ?_
  refine JC.seq ?_
  refine JC.region ?_
  refine JL.pure rfl (PO.move (v := .pointer (some ⟨p, 0, none⟩)) rfl) ?_
  refine JL.pure rfl (PO.move (v := .int .i64 id) rfl) ?_
  refine JL.op rfl (JO.call [] Tryz.call266 rfl (N_procKey id [47, 112] (by omega) (show List.length ([47, 112] : Str) ≤ 2 by decide) (by omega)) rfl (fun _ _ => trivial)) ?_
  rintro _ _ ⟨_, ⟨u_3, e_1, f_4, rfl, rfl⟩, rfl⟩
  refine JL.op rfl (JO.call [0, 0, 0, 0] Tryz.call170 rfl (N_num p x m hk (by omega) (by omega) u_3) rfl (fun _ _ => trivial)) ?_
  rintro _ _ ⟨_, ⟨x_7, m_8, n_9, e_5, k_6, f_10, rfl, rfl⟩, rfl⟩
  refine JL.pure rfl (PO.assign (v := .int .i64 n_9) rfl) ?_
  refine JL.nil ?_
  refine JQ.seq ?_
  refine JC.seq ?_
  refine JC.seq ?_
  refine JC.region ?_
  refine JL.pure rfl (PO.move (v := .int .i64 n_9) rfl) ?_
  refine JL.pure rfl (PO.eqlI rfl rfl) ?_
  refine JL.pure rfl (PO.move (v := .bool (decide (n_9 = 0))) rfl) ?_
  by_cases h_11 : n_9 = 0
  · skip
    refine JL.guardOff (b := true) rfl rfl rfl (congrArg Value.bool (decide_eq_true h_11)) ?_
    refine JL.guardOff (b := true) rfl rfl rfl (congrArg Value.bool (decide_eq_true h_11)) ?_
    refine JL.guardOff (b := true) rfl rfl rfl (congrArg Value.bool (decide_eq_true h_11)) ?_
    refine JL.pure rfl (PO.pickT (v := .bool true) (congrArg Value.bool (decide_eq_true h_11)) rfl) ?_
    refine JL.nil ?_
    refine JQ.seq ?_
    refine JC.condT (congrArg Value.bool rfl) ?_
    refine JC.seq ?_
    refine JC.region ?_
    refine JL.pure rfl (PO.assign (v := .int .i64 0) rfl) ?_
    refine JL.pure rfl (PO.assign (v := .int .i64 2) rfl) ?_
    refine JL.nil ?_
    refine JQ.seq ?_
    refine JC.ret ?_
    refine JQ.thenRet ?_
    refine Done.two (.inl rfl) rfl (RV.tmp (v := .int .i64 0) rfl) (RV.tmp (v := .int .i64 2) rfl) (List.Sublist.refl _) ?_
    exact ⟨x_7, m_8, 0, 2, (by simp only [MS.reap, e_1, e_5, h_11, if_true, if_false, Bool.false_eq_true, Bool.not_true, Bool.not_false]; (repeat (first | rw [if_pos (by omega)] | rw [if_neg (by omega)])); all_goals (first | rfl | simp only [if_true, if_false, Bool.false_eq_true, Bool.not_true, Bool.not_false, e_1, e_5, h_11])), (k_6.mono (by omega) (by omega)), (by first | omega | (simp only [List.length_append, List.length_cons, List.length_nil, List.length_take, List.length_drop]; omega)), (by first | omega | (simp only [List.length_append, List.length_cons, List.length_nil, List.length_take, List.length_drop]; omega)), rfl, rfl⟩
  · skip
    refine JL.guardOn rfl rfl rfl (congrArg Value.bool (decide_eq_false h_11)) (JO.ofLO (LO.pure (PO.move (v := .int .i64 n_9) rfl))) ?_
    rintro _ _ ⟨rfl, rfl⟩
    refine JL.guardOn rfl rfl rfl (congrArg Value.bool (decide_eq_false h_11)) (JO.ofLO (LO.pure (PO.move (v := .int .i64 parent) rfl))) ?_
    rintro _ _ ⟨rfl, rfl⟩
    refine JL.guardOn rfl rfl rfl (congrArg Value.bool (decide_eq_false h_11)) (JO.ofLO (LO.pure (PO.neqI rfl rfl))) ?_
    rintro _ _ ⟨rfl, rfl⟩
    refine JL.pure rfl (PO.pickF (v := .bool (!(decide (n_9 = parent)))) (congrArg Value.bool (decide_eq_false h_11)) rfl) ?_
    refine JL.nil ?_
    refine JQ.seq ?_
    by_cases h_12 : n_9 = parent
    · skip
      refine JC.condF (congrArg Value.bool (congrArg Bool.not (decide_eq_true h_12))) ?_
      refine JC.skip ?_
      refine JQ.seq ?_
      refine JC.seq ?_
      refine JC.seq ?_
      refine JC.region ?_
      refine JL.pure rfl (PO.move (v := .pointer (some ⟨p, 0, none⟩)) rfl) ?_
      refine JL.pure rfl (PO.move (v := .int .i64 id) rfl) ?_
      refine JL.op rfl (JO.call [0, 0, 0, 0] Tryz.call186 rfl (N_state p x_7 m_8 k_6 (by omega) (by omega) id (by omega)) rfl (fun _ _ => trivial)) ?_
      rintro _ _ ⟨_, ⟨x_15, m_16, n_17, e_13, k_14, f_18, rfl, rfl⟩, rfl⟩
      refine JL.nil ?_
      refine JQ.seq ?_
      refine JC.block ?_
      refine JC.seq ?_
      refine JC.region ?_
      refine JL.pure rfl (PO.eqlI rfl rfl) ?_
      refine JL.pure rfl (PO.assign (v := .bool (decide (n_17 = 1))) rfl) ?_
      refine JL.nil ?_
      refine JQ.seq ?_
      by_cases h_19 : n_17 = 1
      · skip
        refine JC.condT (congrArg Value.bool (decide_eq_true h_19)) ?_
        refine JC.seq ?_
        refine JC.region ?_
        refine JL.pure rfl (PO.assign (v := .int .i64 0) rfl) ?_
        refine JL.pure rfl (PO.assign (v := .int .i64 5) rfl) ?_
        refine JL.nil ?_
        refine JQ.seq ?_
        refine JC.ret ?_
        refine JQ.blockRet ?_
        refine JQ.thenRet ?_
        refine Done.two (.inl rfl) rfl (RV.tmp (v := .int .i64 0) rfl) (RV.tmp (v := .int .i64 5) rfl) (List.Sublist.refl _) ?_
        exact ⟨x_15, m_16, 0, 5, (by simp only [MS.reap, e_1, e_5, h_11, h_12, e_13, h_19, if_true, if_false, Bool.false_eq_true, Bool.not_true, Bool.not_false]; (repeat (first | rw [if_pos (by omega)] | rw [if_neg (by omega)])); all_goals (first | rfl | simp only [if_true, if_false, Bool.false_eq_true, Bool.not_true, Bool.not_false, e_1, e_5, h_11, h_12, e_13, h_19])), (k_14.mono (by omega) (by omega)), (by first | omega | (simp only [List.length_append, List.length_cons, List.length_nil, List.length_take, List.length_drop]; omega)), (by first | omega | (simp only [List.length_append, List.length_cons, List.length_nil, List.length_take, List.length_drop]; omega)), rfl, rfl⟩
      · skip
        refine JC.condF (congrArg Value.bool (decide_eq_false h_19)) ?_
        refine JC.seq ?_
        refine JC.region ?_
        refine JL.pure rfl (PO.eqlI rfl rfl) ?_
        refine JL.pure rfl (PO.assign (v := .bool (decide (n_17 = 2))) rfl) ?_
        refine JL.nil ?_
        refine JQ.seq ?_
        by_cases h_20 : n_17 = 2
        · skip
          refine JC.condT (congrArg Value.bool (decide_eq_true h_20)) ?_
          refine JC.seq ?_
          refine JC.region ?_
          refine JL.pure rfl (PO.move (v := .pointer (some ⟨p, 0, none⟩)) rfl) ?_
          refine JL.pure rfl (PO.move (v := .int .i64 id) rfl) ?_
          refine JL.op rfl (JO.call [] Tryz.call266 rfl (N_procKey id [47, 120] (by omega) (show List.length ([47, 120] : Str) ≤ 2 by decide) (by omega)) rfl (fun _ _ => trivial)) ?_
          rintro _ _ ⟨_, ⟨u_23, e_21, f_24, rfl, rfl⟩, rfl⟩
          refine JL.op rfl (JO.call [0, 0, 0, 0] Tryz.call170 rfl (N_num p x_15 m_16 k_14 (by omega) (by omega) u_23) rfl (fun _ _ => trivial)) ?_
          rintro _ _ ⟨_, ⟨x_27, m_28, n_29, e_25, k_26, f_30, rfl, rfl⟩, rfl⟩
          refine JL.pure rfl (PO.sub (c := n_29 - 1) rfl rfl (wr (by omega))) ?_
          refine JL.pure rfl (PO.assign (v := .int .i64 (n_29 - 1)) rfl) ?_
          refine JL.nil ?_
          refine JQ.seq ?_
          refine JC.seq ?_
          refine JC.region ?_
          refine JL.pure rfl (PO.move (v := .pointer (some ⟨p, 0, none⟩)) rfl) ?_
          refine JL.pure rfl (PO.move (v := .int .i64 id) rfl) ?_
          refine JL.op rfl (JO.call [] Tryz.call266 rfl (N_procKey id [47] (by omega) (show List.length ([47] : Str) ≤ 1 by decide) (by omega)) rfl (fun _ _ => trivial)) ?_
          rintro _ _ ⟨_, ⟨u_33, e_31, f_34, rfl, rfl⟩, rfl⟩
          refine JL.op rfl (JO.call [0, 0, 0, 0] Tryz.call256 rfl (N_wipe p x_27 m_28 k_26 (by omega) (by omega) u_33 (by omega)) rfl (fun _ _ => trivial)) ?_
          rintro _ _ ⟨_, ⟨x_37, m_38, e_35, k_36, rfl, rfl⟩, rfl⟩
          refine JL.nil ?_
          refine JQ.seq ?_
          refine JC.seq ?_
          refine JC.region ?_
          refine JL.pure rfl (PO.move (v := .int .i64 (n_29 - 1)) rfl) ?_
          refine JL.pure rfl (PO.assign (v := .int .i64 (n_29 - 1)) rfl) ?_
          refine JL.pure rfl (PO.assign (v := .int .i64 0) rfl) ?_
          refine JL.nil ?_
          refine JQ.seq ?_
          refine JC.ret ?_
          refine JQ.blockRet ?_
          refine JQ.thenRet ?_
          refine Done.two (.inl rfl) rfl (RV.tmp (v := .int .i64 (n_29 - 1)) rfl) (RV.tmp (v := .int .i64 0) rfl) (List.Sublist.refl _) ?_
          exact ⟨x_37, m_38, (n_29 - 1), 0, (by simp only [MS.reap, e_1, e_5, h_11, h_12, e_13, h_19, h_20, e_21, e_25, e_31, e_35, if_true, if_false, Bool.false_eq_true, Bool.not_true, Bool.not_false]; (repeat (first | rw [if_pos (by omega)] | rw [if_neg (by omega)])); all_goals (first | rfl | simp only [if_true, if_false, Bool.false_eq_true, Bool.not_true, Bool.not_false, e_1, e_5, h_11, h_12, e_13, h_19, h_20, e_21, e_25, e_31, e_35])), (k_36.mono (by omega) (by omega)), (by first | omega | (simp only [List.length_append, List.length_cons, List.length_nil, List.length_take, List.length_drop]; omega)), (by first | omega | (simp only [List.length_append, List.length_cons, List.length_nil, List.length_take, List.length_drop]; omega)), rfl, rfl⟩
        · skip
          refine JC.condF (congrArg Value.bool (decide_eq_false h_20)) ?_
          refine JC.skip ?_
          refine JQ.blockN ?_
          refine JQ.seq ?_
          refine JC.seq ?_
          refine JC.region ?_
          refine JL.pure rfl (PO.assign (v := .int .i64 0) rfl) ?_
          refine JL.pure rfl (PO.assign (v := .int .i64 2) rfl) ?_
          refine JL.nil ?_
          refine JQ.seq ?_
          refine JC.ret ?_
          refine Done.two (.inl rfl) rfl (RV.tmp (v := .int .i64 0) rfl) (RV.tmp (v := .int .i64 2) rfl) (List.Sublist.refl _) ?_
          exact ⟨x_15, m_16, 0, 2, (by simp only [MS.reap, e_1, e_5, h_11, h_12, e_13, h_19, h_20, if_true, if_false, Bool.false_eq_true, Bool.not_true, Bool.not_false]; (repeat (first | rw [if_pos (by omega)] | rw [if_neg (by omega)])); all_goals (first | rfl | simp only [if_true, if_false, Bool.false_eq_true, Bool.not_true, Bool.not_false, e_1, e_5, h_11, h_12, e_13, h_19, h_20])), (k_14.mono (by omega) (by omega)), (by first | omega | (simp only [List.length_append, List.length_cons, List.length_nil, List.length_take, List.length_drop]; omega)), (by first | omega | (simp only [List.length_append, List.length_cons, List.length_nil, List.length_take, List.length_drop]; omega)), rfl, rfl⟩
    · skip
      refine JC.condT (congrArg Value.bool (congrArg Bool.not (decide_eq_false h_12))) ?_
      refine JC.seq ?_
      refine JC.region ?_
      refine JL.pure rfl (PO.assign (v := .int .i64 0) rfl) ?_
      refine JL.pure rfl (PO.assign (v := .int .i64 2) rfl) ?_
      refine JL.nil ?_
      refine JQ.seq ?_
      refine JC.ret ?_
      refine JQ.thenRet ?_
      refine Done.two (.inl rfl) rfl (RV.tmp (v := .int .i64 0) rfl) (RV.tmp (v := .int .i64 2) rfl) (List.Sublist.refl _) ?_
      exact ⟨x_7, m_8, 0, 2, (by simp only [MS.reap, e_1, e_5, h_11, h_12, if_true, if_false, Bool.false_eq_true, Bool.not_true, Bool.not_false]; (repeat (first | rw [if_pos (by omega)] | rw [if_neg (by omega)])); all_goals (first | rfl | simp only [if_true, if_false, Bool.false_eq_true, Bool.not_true, Bool.not_false, e_1, e_5, h_11, h_12])), (k_6.mono (by omega) (by omega)), (by first | omega | (simp only [List.length_append, List.length_cons, List.length_nil, List.length_take, List.length_drop]; omega)), (by first | omega | (simp only [List.length_append, List.length_cons, List.length_nil, List.length_take, List.length_drop]; omega)), rfl, rfl⟩

theorem M_reap (x : MA) (m : MS) {S T : Nat} (hk : m.ok S T) (hS : S ≤ 50000000) (hT : T ≤ 50000000) (parent : Int) (id : Int) (hparent : -9223372036854775808 ≤ parent ∧ parent ≤ 9223372036854775807) (hid : -9223372036854775808 ≤ id ∧ id ≤ 9223372036854775807) :
    Ct Tryz.prog 183 [mv x m, .int .i64 parent, .int .i64 id] (mr x m) (fun _ => True) (fun v A' => ∃ x' m' r0 r1, MS.reap m parent id = (m', r0, r1) ∧ m'.ok (S) (T + S + 5) ∧ (-1 ≤ r0 ∧ r0 ≤ 999) ∧ (0 ≤ r1 ∧ r1 ≤ 9) ∧ v = .tuple #[mv x' m', .int .i64 r0, .int .i64 r1] ∧ A' = mr x' m') := by
  refine Ct.intro Tryz.func183 rfl Tryz.ntmps183 (Nat.le_of_ble_eq_true rfl) fun w0 hpre => ?_
  refine JC.seq ?_
  refine JC.region ?_
  refine JL.op rfl (JO.box (cs := [.slice x.a0 m.s.length x.c0, .slice x.a1 m.r.length x.c1, .slice x.a2 m.w.length x.c2]) rfl rfl) ?_
  rintro _ _ ⟨b_1, rfl, rfl⟩
  refine JL.op rfl (JO.alloc (z := .agg #[.slice none 0 0, .slice none 0 0, .slice none 0 0]) (cs := [.slice none 0 0, .slice none 0 0, .slice none 0 0]) Tryz.zeroValue32 rfl) ?_
  rintro _ _ ⟨b_2, rfl, rfl⟩
  refine JL.pure rfl (PO.assign (v := .int .i64 0) rfl) ?_
  refine JL.pure rfl (PO.assign (v := .int .i64 0) rfl) ?_
  refine JL.nil ?_
  refine JQ.seq ?_
  refine JC.seq ?_
  refine JC.regionA [mb b_1 x m] 7 mixed (by simp) ?_
  refine JA.take 0 rfl (by kernel_rfl) (NP.th NP.body) (by kernel_rfl) (by kernel_rfl) (by kernel_rfl) rfl (LO.loadK 0 (vs := [.slice x.a0 m.s.length x.c0, .slice x.a1 m.r.length x.c1, .slice x.a2 m.w.length x.c2]) rfl rfl Tryz.isAgg32 Tryz.sizeOf32 rfl rfl) ?_
  refine JA.takeP 1 rfl (by kernel_rfl) (NP.th NP.body) (by kernel_rfl) (by kernel_rfl) rfl (PO.move (v := .int .i64 id) rfl) ?_
  refine JA.one (i := 2) (by kernel_rfl) ?_
  refine JX.op rfl rfl (JO.call [] Tryz.call267 rfl (N_l09Key id [47, 112] (by omega) (show List.length ([47, 112] : Str) ≤ 2 by decide) (by omega)) rfl (fun _ _ => trivial)) ?_
  rintro _ _ ⟨_, ⟨u_9, e_7, f_10, rfl, rfl⟩, rfl⟩
  refine ⟨(by simp), ?_⟩
  refine JA.one (i := 3) (by kernel_rfl) ?_
  refine JX.op rfl rfl (JO.call [2, 2, 2] Tryz.call228 rfl (N_sNumAt x m hk (by omega) (by omega) u_9) rfl (fun _ _ => trivial)) ?_
  rintro _ _ ⟨_, ⟨x_19, m_20, n_21, e_17, k_18, f_22, rfl, rfl⟩, rfl⟩
  refine ⟨(by simp), ?_⟩
  refine JA.takeP 4 rfl (by kernel_rfl) (NP.th NP.body) (by kernel_rfl) (by kernel_rfl) rfl (PO.move (v := .tuple #[mv x_19 m_20, .int .i64 n_21]) rfl) ?_
  refine JA.takeP 5 rfl (by kernel_rfl) (NP.th NP.body) (by kernel_rfl) (by kernel_rfl) rfl (PO.extract (v := mv x_19 m_20) rfl rfl) ?_
  refine JA.takeP 6 rfl (by kernel_rfl) (NP.th NP.body) (by kernel_rfl) (by kernel_rfl) rfl (PO.extract (v := .int .i64 n_21) rfl rfl) ?_
  refine JA.one (i := 7) (by kernel_rfl) ?_
  refine JX.late rfl rfl (by decide) (by kernel_rfl) (JO.store 4 (vs := [.slice x_19.a0 m_20.s.length x_19.c0, .slice x_19.a1 m_20.r.length x_19.c1, .slice x_19.a2 m_20.w.length x_19.c2]) (cs' := [.slice x_19.a0 m_20.s.length x_19.c0, .slice x_19.a1 m_20.r.length x_19.c1, .slice x_19.a2 m_20.w.length x_19.c2]) rfl rfl rfl rfl Tryz.sizeOf32 rfl rfl (Nat.le_of_ble_eq_true rfl) rfl) ?_
  rintro _ _ rfl
  refine JA.takeP 8 rfl (by kernel_rfl) (NP.th NP.body) (by kernel_rfl) (by kernel_rfl) rfl (PO.assign (v := .int .i64 n_21) rfl) ?_
  refine JA.done (by kernel_rfl) ?_
  refine JQ.seq ?_
  refine JC.seq ?_
  refine JC.seq ?_
  refine JC.region ?_
  refine JL.pure rfl (PO.move (v := .int .i64 n_21) rfl) ?_
  refine JL.pure rfl (PO.eqlI rfl rfl) ?_
  refine JL.pure rfl (PO.move (v := .bool (decide (n_21 = 0))) rfl) ?_
  by_cases h_23 : n_21 = 0
  · skip
    refine JL.guardOff (b := true) rfl rfl rfl (congrArg Value.bool (decide_eq_true h_23)) ?_
    refine JL.guardOff (b := true) rfl rfl rfl (congrArg Value.bool (decide_eq_true h_23)) ?_
    refine JL.guardOff (b := true) rfl rfl rfl (congrArg Value.bool (decide_eq_true h_23)) ?_
    refine JL.pure rfl (PO.pickT (v := .bool true) (congrArg Value.bool (decide_eq_true h_23)) rfl) ?_
    refine JL.nil ?_
    refine JQ.seq ?_
    refine JC.condT (congrArg Value.bool rfl) ?_
    refine JC.seq ?_
    refine JC.region ?_
    refine JL.ld rfl (LO.loadK 4 (vs := [.slice x_19.a0 m_20.s.length x_19.c0, .slice x_19.a1 m_20.r.length x_19.c1, .slice x_19.a2 m_20.w.length x_19.c2]) rfl rfl Tryz.isAgg32 Tryz.sizeOf32 rfl rfl) ?_
    refine JL.op rfl (JO.store 3 (vs := [.slice x_19.a0 m_20.s.length x_19.c0, .slice x_19.a1 m_20.r.length x_19.c1, .slice x_19.a2 m_20.w.length x_19.c2]) (cs' := [.slice x_19.a0 m_20.s.length x_19.c0, .slice x_19.a1 m_20.r.length x_19.c1, .slice x_19.a2 m_20.w.length x_19.c2]) rfl rfl rfl rfl Tryz.sizeOf32 rfl rfl (Nat.le_of_ble_eq_true rfl) rfl) ?_
    rintro _ _ rfl
    refine JL.pure rfl (PO.assign (v := .int .i64 0) rfl) ?_
    refine JL.pure rfl (PO.assign (v := .int .i64 2) rfl) ?_
    refine JL.nil ?_
    refine JQ.seq ?_
    refine JC.ret ?_
    refine JQ.thenRet ?_
    refine Done.three (.inl rfl) rfl (RV.cell1 (LO.loadK 3 (vs := [.slice x_19.a0 m_20.s.length x_19.c0, .slice x_19.a1 m_20.r.length x_19.c1, .slice x_19.a2 m_20.w.length x_19.c2]) rfl rfl Tryz.isAgg32 Tryz.sizeOf32 rfl rfl) ⟨_, rfl⟩) (RV.tmp (v := .int .i64 0) rfl) (RV.tmp (v := .int .i64 2) rfl) (List.sublist_append_left [rC x_19.a0 x_19.c0 m_20.s, rS x_19.a1 x_19.c1 m_20.r, rS x_19.a2 x_19.c2 m_20.w] [mb b_2 x_19 m_20, mb b_1 x_19 m_20]) ?_
    exact ⟨x_19, m_20, 0, 2, (by simp only [MS.reap, e_7, e_17, h_23, if_true, if_false, Bool.false_eq_true, Bool.not_true, Bool.not_false]; (repeat (first | rw [if_pos (by omega)] | rw [if_neg (by omega)])); all_goals (first | rfl | simp only [if_true, if_false, Bool.false_eq_true, Bool.not_true, Bool.not_false, e_7, e_17, h_23])), (k_18.mono (by omega) (by omega)), (by first | omega | (simp only [List.length_append, List.length_cons, List.length_nil, List.length_take, List.length_drop]; omega)), (by first | omega | (simp only [List.length_append, List.length_cons, List.length_nil, List.length_take, List.length_drop]; omega)), rfl, rfl⟩
  · skip
    refine JL.guardOn rfl rfl rfl (congrArg Value.bool (decide_eq_false h_23)) (JO.ofLO (LO.pure (PO.move (v := .int .i64 n_21) rfl))) ?_
    rintro _ _ ⟨rfl, rfl⟩
    refine JL.guardOn rfl rfl rfl (congrArg Value.bool (decide_eq_false h_23)) (JO.ofLO (LO.pure (PO.move (v := .int .i64 parent) rfl))) ?_
    rintro _ _ ⟨rfl, rfl⟩
    refine JL.guardOn rfl rfl rfl (congrArg Value.bool (decide_eq_false h_23)) (JO.ofLO (LO.pure (PO.neqI rfl rfl))) ?_
    rintro _ _ ⟨rfl, rfl⟩
    refine JL.pure rfl (PO.pickF (v := .bool (!(decide (n_21 = parent)))) (congrArg Value.bool (decide_eq_false h_23)) rfl) ?_
    refine JL.nil ?_
    refine JQ.seq ?_
    by_cases h_24 : n_21 = parent
    · skip
      refine JC.condF (congrArg Value.bool (congrArg Bool.not (decide_eq_true h_24))) ?_
      refine JC.skip ?_
      refine JQ.seq ?_
      refine JC.seq ?_
      refine JC.region ?_
      refine JL.ld rfl (LO.loadK 4 (vs := [.slice x_19.a0 m_20.s.length x_19.c0, .slice x_19.a1 m_20.r.length x_19.c1, .slice x_19.a2 m_20.w.length x_19.c2]) rfl rfl Tryz.isAgg32 Tryz.sizeOf32 rfl rfl) ?_
      refine JL.pure rfl (PO.move (v := .int .i64 id) rfl) ?_
      refine JL.op rfl (JO.call [0, 0, 0] Tryz.call187 rfl (M_state x_19 m_20 k_18 (by omega) (by omega) id (by omega)) rfl (fun _ _ => trivial)) ?_
      rintro _ _ ⟨_, ⟨x_27, m_28, n_29, e_25, k_26, f_30, rfl, rfl⟩, rfl⟩
      refine JL.pure rfl (PO.move (v := .tuple #[mv x_27 m_28, .int .i64 n_29]) rfl) ?_
      refine JL.pure rfl (PO.extract (v := mv x_27 m_28) rfl rfl) ?_
      refine JL.pure rfl (PO.extract (v := .int .i64 n_29) rfl rfl) ?_
      refine JL.op rfl (JO.store 4 (vs := [.slice x_27.a0 m_28.s.length x_27.c0, .slice x_27.a1 m_28.r.length x_27.c1, .slice x_27.a2 m_28.w.length x_27.c2]) (cs' := [.slice x_27.a0 m_28.s.length x_27.c0, .slice x_27.a1 m_28.r.length x_27.c1, .slice x_27.a2 m_28.w.length x_27.c2]) rfl rfl rfl rfl Tryz.sizeOf32 rfl rfl (Nat.le_of_ble_eq_true rfl) rfl) ?_
      rintro _ _ rfl
      refine JL.pure rfl (PO.assign (v := .int .i64 n_29) rfl) ?_
      refine JL.nil ?_
      refine JQ.seq ?_
      refine JC.seq ?_
      refine JC.seq ?_
      refine JC.region ?_
      refine JL.pure rfl (PO.move (v := .int .i64 n_29) rfl) ?_
      refine JL.pure rfl (PO.eqlI rfl rfl) ?_
      refine JL.nil ?_
      refine JQ.seq ?_
      by_cases h_31 : n_29 = 1
      · skip
        refine JC.condT (congrArg Value.bool (decide_eq_true h_31)) ?_
        refine JC.seq ?_
        refine JC.region ?_
        refine JL.ld rfl (LO.loadK 4 (vs := [.slice x_27.a0 m_28.s.length x_27.c0, .slice x_27.a1 m_28.r.length x_27.c1, .slice x_27.a2 m_28.w.length x_27.c2]) rfl rfl Tryz.isAgg32 Tryz.sizeOf32 rfl rfl) ?_
        refine JL.op rfl (JO.store 3 (vs := [.slice x_27.a0 m_28.s.length x_27.c0, .slice x_27.a1 m_28.r.length x_27.c1, .slice x_27.a2 m_28.w.length x_27.c2]) (cs' := [.slice x_27.a0 m_28.s.length x_27.c0, .slice x_27.a1 m_28.r.length x_27.c1, .slice x_27.a2 m_28.w.length x_27.c2]) rfl rfl rfl rfl Tryz.sizeOf32 rfl rfl (Nat.le_of_ble_eq_true rfl) rfl) ?_
        rintro _ _ rfl
        refine JL.pure rfl (PO.assign (v := .int .i64 0) rfl) ?_
        refine JL.pure rfl (PO.assign (v := .int .i64 5) rfl) ?_
        refine JL.nil ?_
        refine JQ.seq ?_
        refine JC.ret ?_
        refine JQ.thenRet ?_
        refine Done.three (.inl rfl) rfl (RV.cell1 (LO.loadK 3 (vs := [.slice x_27.a0 m_28.s.length x_27.c0, .slice x_27.a1 m_28.r.length x_27.c1, .slice x_27.a2 m_28.w.length x_27.c2]) rfl rfl Tryz.isAgg32 Tryz.sizeOf32 rfl rfl) ⟨_, rfl⟩) (RV.tmp (v := .int .i64 0) rfl) (RV.tmp (v := .int .i64 5) rfl) (List.sublist_append_left [rC x_27.a0 x_27.c0 m_28.s, rS x_27.a1 x_27.c1 m_28.r, rS x_27.a2 x_27.c2 m_28.w] [mb b_2 x_27 m_28, mb b_1 x_27 m_28]) ?_
        exact ⟨x_27, m_28, 0, 5, (by simp only [MS.reap, e_7, e_17, h_23, h_24, e_25, h_31, if_true, if_false, Bool.false_eq_true, Bool.not_true, Bool.not_false]; (repeat (first | rw [if_pos (by omega)] | rw [if_neg (by omega)])); all_goals (first | rfl | simp only [if_true, if_false, Bool.false_eq_true, Bool.not_true, Bool.not_false, e_7, e_17, h_23, h_24, e_25, h_31])), (k_26.mono (by omega) (by omega)), (by first | omega | (simp only [List.length_append, List.length_cons, List.length_nil, List.length_take, List.length_drop]; omega)), (by first | omega | (simp only [List.length_append, List.length_cons, List.length_nil, List.length_take, List.length_drop]; omega)), rfl, rfl⟩
      · skip
        refine JC.condF (congrArg Value.bool (decide_eq_false h_31)) ?_
        refine JC.skip ?_
        refine JQ.seq ?_
        refine JC.seq ?_
        refine JC.seq ?_
        refine JC.region ?_
        refine JL.pure rfl (PO.move (v := .int .i64 n_29) rfl) ?_
        refine JL.pure rfl (PO.neqI rfl rfl) ?_
        refine JL.nil ?_
        refine JQ.seq ?_
        by_cases h_32 : n_29 = 2
        · skip
          refine JC.condF (congrArg Value.bool (congrArg Bool.not (decide_eq_true h_32))) ?_
          refine JC.skip ?_
          refine JQ.seq ?_
          refine JC.seq ?_
          refine JC.regionA [mb b_1 x_27 m_28] 7 mixed (by simp) ?_
          refine JA.take 0 rfl (by kernel_rfl) (NP.th NP.body) (by kernel_rfl) (by kernel_rfl) (by kernel_rfl) rfl (LO.loadK 0 (vs := [.slice x_27.a0 m_28.s.length x_27.c0, .slice x_27.a1 m_28.r.length x_27.c1, .slice x_27.a2 m_28.w.length x_27.c2]) rfl rfl Tryz.isAgg32 Tryz.sizeOf32 rfl rfl) ?_
          refine JA.takeP 1 rfl (by kernel_rfl) (NP.th NP.body) (by kernel_rfl) (by kernel_rfl) rfl (PO.move (v := .int .i64 id) rfl) ?_
          refine JA.one (i := 2) (by kernel_rfl) ?_
          refine JX.op rfl rfl (JO.call [] Tryz.call267 rfl (N_l09Key id [47, 120] (by omega) (show List.length ([47, 120] : Str) ≤ 2 by decide) (by omega)) rfl (fun _ _ => trivial)) ?_
          rintro _ _ ⟨_, ⟨u_39, e_37, f_40, rfl, rfl⟩, rfl⟩
          refine ⟨(by simp), ?_⟩
          refine JA.one (i := 3) (by kernel_rfl) ?_
          refine JX.op rfl rfl (JO.call [0, 0, 0] Tryz.call228 rfl (N_sNumAt x_27 m_28 k_26 (by omega) (by omega) u_39) rfl (fun _ _ => trivial)) ?_
          rintro _ _ ⟨_, ⟨x_49, m_50, n_51, e_47, k_48, f_52, rfl, rfl⟩, rfl⟩
          refine ⟨(by simp), ?_⟩
          refine JA.takeP 4 rfl (by kernel_rfl) (NP.th NP.body) (by kernel_rfl) (by kernel_rfl) rfl (PO.move (v := .tuple #[mv x_49 m_50, .int .i64 n_51]) rfl) ?_
          refine JA.takeP 5 rfl (by kernel_rfl) (NP.th NP.body) (by kernel_rfl) (by kernel_rfl) rfl (PO.extract (v := mv x_49 m_50) rfl rfl) ?_
          refine JA.takeP 6 rfl (by kernel_rfl) (NP.th NP.body) (by kernel_rfl) (by kernel_rfl) rfl (PO.extract (v := .int .i64 n_51) rfl rfl) ?_
          refine JA.one (i := 7) (by kernel_rfl) ?_
          refine JX.late rfl rfl (by decide) (by kernel_rfl) (JO.store 4 (vs := [.slice x_49.a0 m_50.s.length x_49.c0, .slice x_49.a1 m_50.r.length x_49.c1, .slice x_49.a2 m_50.w.length x_49.c2]) (cs' := [.slice x_49.a0 m_50.s.length x_49.c0, .slice x_49.a1 m_50.r.length x_49.c1, .slice x_49.a2 m_50.w.length x_49.c2]) rfl rfl rfl rfl Tryz.sizeOf32 rfl rfl (Nat.le_of_ble_eq_true rfl) rfl) ?_
          rintro _ _ rfl
          refine JA.takeP 8 rfl (by kernel_rfl) (NP.th NP.body) (by kernel_rfl) (by kernel_rfl) rfl (PO.assign (v := .int .i64 n_51) rfl) ?_
          refine JA.done (by kernel_rfl) ?_
          refine JQ.seq ?_
          refine JC.seq ?_
          refine JC.regionA [mb b_1 x_49 m_50] 6 mixed (by simp) ?_
          refine JA.take 0 rfl (by kernel_rfl) (NP.th NP.body) (by kernel_rfl) (by kernel_rfl) (by kernel_rfl) rfl (LO.loadK 0 (vs := [.slice x_49.a0 m_50.s.length x_49.c0, .slice x_49.a1 m_50.r.length x_49.c1, .slice x_49.a2 m_50.w.length x_49.c2]) rfl rfl Tryz.isAgg32 Tryz.sizeOf32 rfl rfl) ?_
          refine JA.takeP 1 rfl (by kernel_rfl) (NP.th NP.body) (by kernel_rfl) (by kernel_rfl) rfl (PO.move (v := .int .i64 id) rfl) ?_
          refine JA.takeP 4 rfl (by kernel_rfl) (NP.th NP.body) (by kernel_rfl) (by kernel_rfl) rfl (PO.move (v := .int .i64 n_51) rfl) ?_
          refine JA.takeP 5 rfl (by kernel_rfl) (NP.th NP.body) (by kernel_rfl) (by kernel_rfl) rfl (PO.sub (c := n_51 - 1) rfl rfl (wr (by omega))) ?_
          refine JA.one (i := 2) (by kernel_rfl) ?_
          refine JX.op rfl rfl (JO.call [] Tryz.call267 rfl (N_l09Key id [47] (by omega) (show List.length ([47] : Str) ≤ 1 by decide) (by omega)) rfl (fun _ _ => trivial)) ?_
          rintro _ _ ⟨_, ⟨u_67, e_65, f_68, rfl, rfl⟩, rfl⟩
          refine ⟨(by simp), ?_⟩
          refine JA.one (i := 3) (by kernel_rfl) ?_
          refine JX.op rfl rfl (JO.call [0, 0, 0] Tryz.call257 rfl (M_wipe x_49 m_50 k_48 (by omega) (by omega) u_67 (by omega)) rfl (fun _ _ => trivial)) ?_
          rintro _ _ ⟨_, ⟨x_75, m_76, e_73, k_74, rfl, rfl⟩, rfl⟩
          refine ⟨(by simp), ?_⟩
          refine JA.one (i := 6) (by kernel_rfl) ?_
          refine JX.late rfl rfl (by decide) (by kernel_rfl) (JO.store 3 (vs := [.slice x_75.a0 m_76.s.length x_75.c0, .slice x_75.a1 m_76.r.length x_75.c1, .slice x_75.a2 m_76.w.length x_75.c2]) (cs' := [.slice x_75.a0 m_76.s.length x_75.c0, .slice x_75.a1 m_76.r.length x_75.c1, .slice x_75.a2 m_76.w.length x_75.c2]) rfl rfl rfl rfl Tryz.sizeOf32 rfl rfl (Nat.le_of_ble_eq_true rfl) rfl) ?_
          rintro _ _ rfl
          refine JA.takeP 7 rfl (by kernel_rfl) (NP.th NP.body) (by kernel_rfl) (by kernel_rfl) rfl (PO.assign (v := .int .i64 (n_51 - 1)) rfl) ?_
          refine JA.takeP 8 rfl (by kernel_rfl) (NP.th NP.body) (by kernel_rfl) (by kernel_rfl) rfl (PO.assign (v := .int .i64 0) rfl) ?_
          refine JA.done (by kernel_rfl) ?_
          refine JQ.seq ?_
          refine JC.ret ?_
          refine Done.three (.inl rfl) rfl (RV.cell1 (LO.loadK 3 (vs := [.slice x_75.a0 m_76.s.length x_75.c0, .slice x_75.a1 m_76.r.length x_75.c1, .slice x_75.a2 m_76.w.length x_75.c2]) rfl rfl Tryz.isAgg32 Tryz.sizeOf32 rfl rfl) ⟨_, rfl⟩) (RV.tmp (v := .int .i64 (n_51 - 1)) rfl) (RV.tmp (v := .int .i64 0) rfl) (List.sublist_append_left [rC x_75.a0 x_75.c0 m_76.s, rS x_75.a1 x_75.c1 m_76.r, rS x_75.a2 x_75.c2 m_76.w] [mb b_2 x_75 m_76, mb b_1 x_49 m_50]) ?_
          exact ⟨x_75, m_76, (n_51 - 1), 0, (by simp only [MS.reap, e_7, e_17, h_23, h_24, e_25, h_31, h_32, e_37, e_47, e_65, e_73, if_true, if_false, Bool.false_eq_true, Bool.not_true, Bool.not_false]; (repeat (first | rw [if_pos (by omega)] | rw [if_neg (by omega)])); all_goals (first | rfl | simp only [if_true, if_false, Bool.false_eq_true, Bool.not_true, Bool.not_false, e_7, e_17, h_23, h_24, e_25, h_31, h_32, e_37, e_47, e_65, e_73])), (k_74.mono (by omega) (by omega)), (by first | omega | (simp only [List.length_append, List.length_cons, List.length_nil, List.length_take, List.length_drop]; omega)), (by first | omega | (simp only [List.length_append, List.length_cons, List.length_nil, List.length_take, List.length_drop]; omega)), rfl, rfl⟩
        · skip
          refine JC.condT (congrArg Value.bool (congrArg Bool.not (decide_eq_false h_32))) ?_
          refine JC.seq ?_
          refine JC.region ?_
          refine JL.ld rfl (LO.loadK 4 (vs := [.slice x_27.a0 m_28.s.length x_27.c0, .slice x_27.a1 m_28.r.length x_27.c1, .slice x_27.a2 m_28.w.length x_27.c2]) rfl rfl Tryz.isAgg32 Tryz.sizeOf32 rfl rfl) ?_
          refine JL.op rfl (JO.store 3 (vs := [.slice x_27.a0 m_28.s.length x_27.c0, .slice x_27.a1 m_28.r.length x_27.c1, .slice x_27.a2 m_28.w.length x_27.c2]) (cs' := [.slice x_27.a0 m_28.s.length x_27.c0, .slice x_27.a1 m_28.r.length x_27.c1, .slice x_27.a2 m_28.w.length x_27.c2]) rfl rfl rfl rfl Tryz.sizeOf32 rfl rfl (Nat.le_of_ble_eq_true rfl) rfl) ?_
          rintro _ _ rfl
          refine JL.pure rfl (PO.assign (v := .int .i64 0) rfl) ?_
          refine JL.pure rfl (PO.assign (v := .int .i64 2) rfl) ?_
          refine JL.nil ?_
          refine JQ.seq ?_
          refine JC.ret ?_
          refine JQ.thenRet ?_
          refine Done.three (.inl rfl) rfl (RV.cell1 (LO.loadK 3 (vs := [.slice x_27.a0 m_28.s.length x_27.c0, .slice x_27.a1 m_28.r.length x_27.c1, .slice x_27.a2 m_28.w.length x_27.c2]) rfl rfl Tryz.isAgg32 Tryz.sizeOf32 rfl rfl) ⟨_, rfl⟩) (RV.tmp (v := .int .i64 0) rfl) (RV.tmp (v := .int .i64 2) rfl) (List.sublist_append_left [rC x_27.a0 x_27.c0 m_28.s, rS x_27.a1 x_27.c1 m_28.r, rS x_27.a2 x_27.c2 m_28.w] [mb b_2 x_27 m_28, mb b_1 x_27 m_28]) ?_
          exact ⟨x_27, m_28, 0, 2, (by simp only [MS.reap, e_7, e_17, h_23, h_24, e_25, h_31, h_32, if_true, if_false, Bool.false_eq_true, Bool.not_true, Bool.not_false]; (repeat (first | rw [if_pos (by omega)] | rw [if_neg (by omega)])); all_goals (first | rfl | simp only [if_true, if_false, Bool.false_eq_true, Bool.not_true, Bool.not_false, e_7, e_17, h_23, h_24, e_25, h_31, h_32])), (k_26.mono (by omega) (by omega)), (by first | omega | (simp only [List.length_append, List.length_cons, List.length_nil, List.length_take, List.length_drop]; omega)), (by first | omega | (simp only [List.length_append, List.length_cons, List.length_nil, List.length_take, List.length_drop]; omega)), rfl, rfl⟩
    · skip
      refine JC.condT (congrArg Value.bool (congrArg Bool.not (decide_eq_false h_24))) ?_
      refine JC.seq ?_
      refine JC.region ?_
      refine JL.ld rfl (LO.loadK 4 (vs := [.slice x_19.a0 m_20.s.length x_19.c0, .slice x_19.a1 m_20.r.length x_19.c1, .slice x_19.a2 m_20.w.length x_19.c2]) rfl rfl Tryz.isAgg32 Tryz.sizeOf32 rfl rfl) ?_
      refine JL.op rfl (JO.store 3 (vs := [.slice x_19.a0 m_20.s.length x_19.c0, .slice x_19.a1 m_20.r.length x_19.c1, .slice x_19.a2 m_20.w.length x_19.c2]) (cs' := [.slice x_19.a0 m_20.s.length x_19.c0, .slice x_19.a1 m_20.r.length x_19.c1, .slice x_19.a2 m_20.w.length x_19.c2]) rfl rfl rfl rfl Tryz.sizeOf32 rfl rfl (Nat.le_of_ble_eq_true rfl) rfl) ?_
      rintro _ _ rfl
      refine JL.pure rfl (PO.assign (v := .int .i64 0) rfl) ?_
      refine JL.pure rfl (PO.assign (v := .int .i64 2) rfl) ?_
      refine JL.nil ?_
      refine JQ.seq ?_
      refine JC.ret ?_
      refine JQ.thenRet ?_
      refine Done.three (.inl rfl) rfl (RV.cell1 (LO.loadK 3 (vs := [.slice x_19.a0 m_20.s.length x_19.c0, .slice x_19.a1 m_20.r.length x_19.c1, .slice x_19.a2 m_20.w.length x_19.c2]) rfl rfl Tryz.isAgg32 Tryz.sizeOf32 rfl rfl) ⟨_, rfl⟩) (RV.tmp (v := .int .i64 0) rfl) (RV.tmp (v := .int .i64 2) rfl) (List.sublist_append_left [rC x_19.a0 x_19.c0 m_20.s, rS x_19.a1 x_19.c1 m_20.r, rS x_19.a2 x_19.c2 m_20.w] [mb b_2 x_19 m_20, mb b_1 x_19 m_20]) ?_
      exact ⟨x_19, m_20, 0, 2, (by simp only [MS.reap, e_7, e_17, h_23, h_24, if_true, if_false, Bool.false_eq_true, Bool.not_true, Bool.not_false]; (repeat (first | rw [if_pos (by omega)] | rw [if_neg (by omega)])); all_goals (first | rfl | simp only [if_true, if_false, Bool.false_eq_true, Bool.not_true, Bool.not_false, e_7, e_17, h_23, h_24])), (k_18.mono (by omega) (by omega)), (by first | omega | (simp only [List.length_append, List.length_cons, List.length_nil, List.length_take, List.length_drop]; omega)), (by first | omega | (simp only [List.length_append, List.length_cons, List.length_nil, List.length_take, List.length_drop]; omega)), rfl, rfl⟩

theorem P_reap (x : MA) (m : MS) {S T : Nat} (hk : m.ok S T) (hS : S ≤ 49000000) (hT : T ≤ 49000000) (parent : Int) (id : Int) (hparent : -9223372036854775808 ≤ parent ∧ parent ≤ 9223372036854775807) (hid : -9223372036854775808 ≤ id ∧ id ≤ 9223372036854775807) :
    Ct Tryz.prog 72 [mv x m, .int .i64 parent, .int .i64 id] ([]) (fun w => seesM w x m) (fun v A' => ∃ x' m' r0 r1, MS.reap m parent id = (m', r0, r1) ∧ m'.ok (S) (T + S + 5) ∧ (-1 ≤ r0 ∧ r0 ≤ 999) ∧ (0 ≤ r1 ∧ r1 ≤ 9) ∧ v = .tuple #[mv x' m', .int .i64 r0, .int .i64 r1] ∧ A' = mr x' m') := by
  refine Ct.intro Tryz.func72 rfl Tryz.ntmps72 (Nat.le_of_ble_eq_true rfl) fun w0 hpre => ?_
  have hs_x_a0 : Sees w0 _ _ _ _ := hpre.1
  have hs_x_a1 : Sees w0 _ _ _ _ := hpre.2.1
  have hs_x_a2 : Sees w0 _ _ _ _ := hpre.2.2
  refine JC.seq ?_
  refine JC.region ?_
  refine JL.op rfl (JO.box (cs := [.slice x.a0 m.s.length x.c0, .slice x.a1 m.r.length x.c1, .slice x.a2 m.w.length x.c2]) rfl rfl) ?_
  rintro _ _ ⟨b_1, rfl, rfl⟩
  refine JL.op rfl (JO.alloc (z := .agg #[.slice none 0 0, .slice none 0 0, .slice none 0 0]) (cs := [.slice none 0 0, .slice none 0 0, .slice none 0 0]) Tryz.zeroValue32 rfl) ?_
  rintro _ _ ⟨b_2, rfl, rfl⟩
  refine JL.pure rfl (PO.assign (v := .int .i64 0) rfl) ?_
  refine JL.pure rfl (PO.assign (v := .int .i64 0) rfl) ?_
  refine JL.nil ?_
  refine JQ.seq ?_
  refine JC.seq ?_
  refine JC.region ?_
  refine JL.ld rfl (LO.loadK 1 (vs := [.slice x.a0 m.s.length x.c0, .slice x.a1 m.r.length x.c1, .slice x.a2 m.w.length x.c2]) rfl rfl Tryz.isAgg32 Tryz.sizeOf32 rfl rfl) ?_
  refine JL.op rfl (JO.call [] Tryz.call127 rfl (N_clone x m hk (by omega) (by omega)) rfl (fun w hw => ⟨hw.seeOut_ hs_x_a0 (fun _ _ => List.not_mem_nil), hw.seeOut_ hs_x_a1 (fun _ _ => List.not_mem_nil), hw.seeOut_ hs_x_a2 (fun _ _ => List.not_mem_nil)⟩)) ?_
  rintro _ _ ⟨_, ⟨x_5, m_6, rfl, k_4, rfl, rfl⟩, rfl⟩
  refine JL.op rfl (JO.store 4 (vs := [.slice x_5.a0 m.s.length x_5.c0, .slice x_5.a1 m.r.length x_5.c1, .slice x_5.a2 m.w.length x_5.c2]) (cs' := [.slice x_5.a0 m.s.length x_5.c0, .slice x_5.a1 m.r.length x_5.c1, .slice x_5.a2 m.w.length x_5.c2]) rfl rfl rfl rfl Tryz.sizeOf32 rfl rfl (Nat.le_of_ble_eq_true rfl) rfl) ?_
  rintro _ _ rfl
  refine JL.nil ?_
  refine JQ.seq ?_
  refine JC.seq ?_
  refine JC.region ?_
  refine JL.pure rfl (PO.move (v := .int .i64 parent) rfl) ?_
  refine JL.pure rfl (PO.move (v := .int .i64 id) rfl) ?_
  refine JL.op rfl (JO.call [4, 0, 0, 0] Tryz.call182 rfl (N_reap b_1 x_5 m k_4 (by omega) (by omega) parent id (by omega) (by omega)) rfl (fun _ _ => trivial)) ?_
  rintro _ _ ⟨_, ⟨x_9, m_10, n_11, n_13, e_7, k_8, f_12, f_14, rfl, rfl⟩, rfl⟩
  refine JL.pure rfl (PO.move (v := .tuple #[.int .i64 n_11, .int .i64 n_13]) rfl) ?_
  refine JL.pure rfl (PO.extract (v := .int .i64 n_11) rfl rfl) ?_
  refine JL.pure rfl (PO.extract (v := .int .i64 n_13) rfl rfl) ?_
  refine JL.pure rfl (PO.assign (v := .int .i64 n_11) rfl) ?_
  refine JL.pure rfl (PO.assign (v := .int .i64 n_13) rfl) ?_
  refine JL.nil ?_
  refine JQ.seq ?_
  refine JC.seq ?_
  refine JC.region ?_
  refine JL.ld rfl (LO.loadK 0 (vs := [.slice x_9.a0 m_10.s.length x_9.c0, .slice x_9.a1 m_10.r.length x_9.c1, .slice x_9.a2 m_10.w.length x_9.c2]) rfl rfl Tryz.isAgg32 Tryz.sizeOf32 rfl rfl) ?_
  refine JL.pure rfl (PO.move (v := .int .i64 n_11) rfl) ?_
  refine JL.pure rfl (PO.move (v := .int .i64 n_13) rfl) ?_
  refine JL.op rfl (JO.store 4 (vs := [.slice x_9.a0 m_10.s.length x_9.c0, .slice x_9.a1 m_10.r.length x_9.c1, .slice x_9.a2 m_10.w.length x_9.c2]) (cs' := [.slice x_9.a0 m_10.s.length x_9.c0, .slice x_9.a1 m_10.r.length x_9.c1, .slice x_9.a2 m_10.w.length x_9.c2]) rfl rfl rfl rfl Tryz.sizeOf32 rfl rfl (Nat.le_of_ble_eq_true rfl) rfl) ?_
  rintro _ _ rfl
  refine JL.pure rfl (PO.assign (v := .int .i64 n_11) rfl) ?_
  refine JL.pure rfl (PO.assign (v := .int .i64 n_13) rfl) ?_
  refine JL.nil ?_
  refine JQ.seq ?_
  refine JC.ret ?_
  refine JQ.perm (pick_perm [1, 1, 1] (A := [rC x_9.a0 x_9.c0 m_10.s, rS x_9.a1 x_9.c1 m_10.r, rS x_9.a2 x_9.c2 m_10.w]) (F := [mb b_1 x_9 m_10, mb b_2 x_9 m_10]) rfl).symm ?_
  refine Done.three (.inl rfl) rfl (RV.cell1 (LO.loadK 4 (vs := [.slice x_9.a0 m_10.s.length x_9.c0, .slice x_9.a1 m_10.r.length x_9.c1, .slice x_9.a2 m_10.w.length x_9.c2]) rfl rfl Tryz.isAgg32 Tryz.sizeOf32 rfl rfl) ⟨_, rfl⟩) (RV.tmp (v := .int .i64 n_11) rfl) (RV.tmp (v := .int .i64 n_13) rfl) (List.sublist_append_left [rC x_9.a0 x_9.c0 m_10.s, rS x_9.a1 x_9.c1 m_10.r, rS x_9.a2 x_9.c2 m_10.w] [mb b_1 x_9 m_10, mb b_2 x_9 m_10]) ?_
  exact ⟨x_9, m_10, n_11, n_13, (by simp only [if_true, e_7, if_true, if_false, Bool.false_eq_true, Bool.not_true, Bool.not_false]; (repeat (first | rw [if_pos (by omega)] | rw [if_neg (by omega)])); all_goals (first | rfl | simp only [if_true, if_false, Bool.false_eq_true, Bool.not_true, Bool.not_false, e_7])), (k_8.mono (by omega) (by omega)), (by first | omega | (simp only [List.length_append, List.length_cons, List.length_nil, List.length_take, List.length_drop]; omega)), (by first | omega | (simp only [List.length_append, List.length_cons, List.length_nil, List.length_take, List.length_drop]; omega)), rfl, rfl⟩

theorem Q_reap (x : MA) (m : MS) {S T : Nat} (hk : m.ok S T) (hS : S ≤ 49000000) (hT : T ≤ 49000000) (parent : Int) (id : Int) (hparent : -9223372036854775808 ≤ parent ∧ parent ≤ 9223372036854775807) (hid : -9223372036854775808 ≤ id ∧ id ≤ 9223372036854775807) :
    Ct Tryz.prog 73 [mv x m, .int .i64 parent, .int .i64 id] ([]) (fun w => seesM w x m) (fun v A' => ∃ x' m' r0 r1, MS.reap m parent id = (m', r0, r1) ∧ m'.ok (S) (T + S + 5) ∧ (-1 ≤ r0 ∧ r0 ≤ 999) ∧ (0 ≤ r1 ∧ r1 ≤ 9) ∧ v = .tuple #[mv x' m', .int .i64 r0, .int .i64 r1] ∧ A' = mr x' m') := by
  refine Ct.intro Tryz.func73 rfl Tryz.ntmps73 (Nat.le_of_ble_eq_true rfl) fun w0 hpre => ?_
  have hs_x_a0 : Sees w0 _ _ _ _ := hpre.1
  have hs_x_a1 : Sees w0 _ _ _ _ := hpre.2.1
  have hs_x_a2 : Sees w0 _ _ _ _ := hpre.2.2
  refine JC.seq ?_
  refine JC.region ?_
  refine JL.op rfl (JO.box (cs := [.slice x.a0 m.s.length x.c0, .slice x.a1 m.r.length x.c1, .slice x.a2 m.w.length x.c2]) rfl rfl) ?_
  rintro _ _ ⟨b_1, rfl, rfl⟩
  refine JL.op rfl (JO.alloc (z := .agg #[.slice none 0 0, .slice none 0 0, .slice none 0 0]) (cs := [.slice none 0 0, .slice none 0 0, .slice none 0 0]) Tryz.zeroValue32 rfl) ?_
  rintro _ _ ⟨b_2, rfl, rfl⟩
  refine JL.pure rfl (PO.assign (v := .int .i64 0) rfl) ?_
  refine JL.pure rfl (PO.assign (v := .int .i64 0) rfl) ?_
  refine JL.nil ?_
  refine JQ.seq ?_
  refine JC.seq ?_
  refine JC.region ?_
  refine JL.ld rfl (LO.loadK 1 (vs := [.slice x.a0 m.s.length x.c0, .slice x.a1 m.r.length x.c1, .slice x.a2 m.w.length x.c2]) rfl rfl Tryz.isAgg32 Tryz.sizeOf32 rfl rfl) ?_
  refine JL.op rfl (JO.call [] Tryz.call124 rfl (N_copy x m hk (by omega) (by omega)) rfl (fun w hw => ⟨hw.seeOut_ hs_x_a0 (fun _ _ => List.not_mem_nil), hw.seeOut_ hs_x_a1 (fun _ _ => List.not_mem_nil), hw.seeOut_ hs_x_a2 (fun _ _ => List.not_mem_nil)⟩)) ?_
  rintro _ _ ⟨_, ⟨x_5, m_6, rfl, k_4, rfl, rfl⟩, rfl⟩
  refine JL.pure rfl (PO.move (v := .int .i64 parent) rfl) ?_
  refine JL.pure rfl (PO.move (v := .int .i64 id) rfl) ?_
  refine JL.op rfl (JO.call [0, 0, 0] Tryz.call183 rfl (M_reap x_5 m k_4 (by omega) (by omega) parent id (by omega) (by omega)) rfl (fun _ _ => trivial)) ?_
  rintro _ _ ⟨_, ⟨x_9, m_10, n_11, n_13, e_7, k_8, f_12, f_14, rfl, rfl⟩, rfl⟩
  refine JL.pure rfl (PO.extract (v := mv x_9 m_10) rfl rfl) ?_
  refine JL.pure rfl (PO.extract (v := .int .i64 n_11) rfl rfl) ?_
  refine JL.pure rfl (PO.extract (v := .int .i64 n_13) rfl rfl) ?_
  refine JL.op rfl (JO.store 3 (vs := [.slice x_9.a0 m_10.s.length x_9.c0, .slice x_9.a1 m_10.r.length x_9.c1, .slice x_9.a2 m_10.w.length x_9.c2]) (cs' := [.slice x_9.a0 m_10.s.length x_9.c0, .slice x_9.a1 m_10.r.length x_9.c1, .slice x_9.a2 m_10.w.length x_9.c2]) rfl rfl rfl rfl Tryz.sizeOf32 rfl rfl (Nat.le_of_ble_eq_true rfl) rfl) ?_
  rintro _ _ rfl
  refine JL.pure rfl (PO.assign (v := .int .i64 n_11) rfl) ?_
  refine JL.pure rfl (PO.assign (v := .int .i64 n_13) rfl) ?_
  refine JL.nil ?_
  refine JQ.seq ?_
  refine JC.ret ?_
  refine Done.three (.inl rfl) rfl (RV.cell1 (LO.loadK 3 (vs := [.slice x_9.a0 m_10.s.length x_9.c0, .slice x_9.a1 m_10.r.length x_9.c1, .slice x_9.a2 m_10.w.length x_9.c2]) rfl rfl Tryz.isAgg32 Tryz.sizeOf32 rfl rfl) ⟨_, rfl⟩) (RV.tmp (v := .int .i64 n_11) rfl) (RV.tmp (v := .int .i64 n_13) rfl) (List.sublist_append_left [rC x_9.a0 x_9.c0 m_10.s, rS x_9.a1 x_9.c1 m_10.r, rS x_9.a2 x_9.c2 m_10.w] [mb b_2 x_9 m_10, mb b_1 x m]) ?_
  exact ⟨x_9, m_10, n_11, n_13, (by simp only [if_true, e_7, if_true, if_false, Bool.false_eq_true, Bool.not_true, Bool.not_false]; (repeat (first | rw [if_pos (by omega)] | rw [if_neg (by omega)])); all_goals (first | rfl | simp only [if_true, if_false, Bool.false_eq_true, Bool.not_true, Bool.not_false, e_7])), (k_8.mono (by omega) (by omega)), (by first | omega | (simp only [List.length_append, List.length_cons, List.length_nil, List.length_take, List.length_drop]; omega)), (by first | omega | (simp only [List.length_append, List.length_cons, List.length_nil, List.length_take, List.length_drop]; omega)), rfl, rfl⟩

end Go.Proofs.YtenfajgpdhgknaaGreatDoor

set_option linter.unusedSimpArgs false
set_option linter.unusedVariables false
set_option linter.unnecessarySimpa false
namespace Go.Proofs.YtenfajgpdhgknaaGreatDoor
open Go Go.RowKit
attribute [local irreducible] JL JC JQ JO LO PO JA JX Ct

theorem N_kids (p : Nat) (x : MA) (m : MS) {S T : Nat} (hk : m.ok S T) (hS : S ≤ 50000000) (hT : T ≤ 50000000) (parent : Int) (hparent : -9223372036854775808 ≤ parent ∧ parent ≤ 9223372036854775807) :
    Ct Tryz.prog 184 [.pointer (some ⟨p, 0, none⟩), .int .i64 parent] (mb p x m :: mr x m) (fun _ => True) (fun v A' => ∃ x' m' r0a r0c r0, MS.kids m parent = (m', r0) ∧ m'.ok (S) (T + S + 1) ∧ r0.length ≤ S ∧ v = .slice r0a r0.length r0c ∧ A' = mb p x' m' :: mr x' m' ++ [rI r0a r0c r0]) := by
  refine Ct.intro Tryz.func184 rfl Tryz.ntmps184 (Nat.le_of_ble_eq_true rfl) fun w0 hpre => ?_
  refine JC.seq ?_
  refine JC.region ?_
  refine JL.pure rfl (PO.assign (v := .slice none 0 0) rfl) ?_
  refine JL.nil ?_
  refine JQ.seq ?_
  refine JC.seq ?_
  refine JC.region ?_
  refine JL.pure rfl (PO.assign (v := .slice none 0 0) rfl) ?_
  refine JL.nil ?_
  refine JQ.seq ?_
  refine JC.seq ?_
  refine JC.seq ?_
  refine JC.region ?_
  refine JL.pure rfl (PO.move (v := .pointer (some ⟨p, 0, none⟩)) rfl) ?_
  refine JL.op rfl (JO.call [0, 0, 0, 0] Tryz.call260 rfl (N_under p x m hk (by omega) (by omega) [114, 47] (by decide)) rfl (fun _ _ => trivial)) ?_
  rintro _ _ ⟨_, ⟨x_3, m_4, l_5a, l_5c, l_5, e_1, k_2, f_6, rfl, rfl⟩, rfl⟩
  refine JL.pure rfl (PO.lenV Tryz.underlying23 rfl) ?_
  refine JL.pure rfl (PO.move (v := .int .i64 0) rfl) ?_
  refine JL.nil ?_
  refine JQ.seq ?_
  refine JC.block ?_
  have hll := f_6.1
  refine JC.nilRow 3 1 ?_
  refine JC.perm (pick_perm [1, 1, 1, 1, 0, 0] (A := [mb p x_3 m_4, rC x_3.a0 x_3.c0 m_4.s, rS x_3.a1 x_3.c1 m_4.r, rS x_3.a2 x_3.c2 m_4.w, Res.row (.slice none 0 0) 3 1 0 (([] : List Int).map (Value.int .i64)), rS l_5a l_5c l_5]) (F := []) rfl).symm ?_
  refine JC.loop (fun k_ e_ L_ => ∃ j : Nat, ∃ x : MA, ∃ mm : MS, ∃ out_a : Option Addr, ∃ out_c : Nat, ∃ out_ : List Int, (j ≤ l_5.length) ∧ (mm.ok (S) (T + 1 + j)) ∧ (out_.length ≤ j) ∧ (MS.kidsL parent (l_5.drop j) mm out_ = MS.kidsL parent l_5 m_4 ([] : List Int)) ∧ e_ 0 = .pointer (some ⟨p, 0, none⟩) ∧ e_ 1 = .int .i64 parent ∧ e_ 4 = .slice none 0 0 ∧ e_ 5 = .slice out_a out_.length out_c ∧ e_ 11 = .slice l_5a l_5.length l_5c ∧ e_ 12 = .int .i64 ((l_5.length : Nat) : Int) ∧ e_ 13 = .int .i64 ((j : Nat) : Int) ∧ L_ = [mb p x mm, rC x.a0 x.c0 mm.s, rS x.a1 x.c1 mm.r, rS x.a2 x.c2 mm.w, rI out_a out_c out_, rS l_5a l_5c l_5] ∧ k_ = l_5.length - j) _ ⟨0, x_3, m_4, none, 0, ([] : List Int), by omega, (k_2.mono (by omega) (by omega)), (by first | omega | (simp only [List.length_append, List.length_cons, List.length_nil, List.length_take, List.length_drop]; omega)), rfl, rfl, rfl, rfl, rfl, rfl, rfl, rfl, rfl, rfl⟩ ?_
  rintro _ e_7 _ ⟨j, x, mm, out_a, out_c, out_, hj, hkmm, ho, hR, he_8, he_9, he_10, he_11, he_12, he_13, he_14, rfl, rfl⟩
  refine JC.seq ?_
  refine JC.region ?_
  refine JL.pure rfl (PO.lss he_14 he_13) ?_
  refine JL.nil ?_
  refine JQ.seq ?_
  refine JC.seq ?_
  by_cases h_15 : ((j : Nat) : Int) < ((l_5.length : Nat) : Int)
  · skip
    have hlt : j < l_5.length := by omega
    have hbj := f_6.2 j hlt
    try simp only [List.length_cons, List.length_nil] at hbj
    refine JC.condT (congrArg Value.bool (decide_eq_true h_15)) ?_
    refine JC.skip ?_
    refine JQ.seq ?_
    refine JC.seq ?_
    refine JC.block ?_
    refine JC.seq ?_
    refine JC.region ?_
    refine JL.facts fun hst => ?_
    obtain ⟨hr_16, hr_16b, -⟩ := row_some 5 rfl (by omega) hst
    refine JL.pure rfl (PO.indexAddrV (i := j) Tryz.underlying23 Tryz.sizeOf9 hr_16 hr_16b he_12 he_14 (by omega)) ?_
    refine JL.ld rfl (LO.loadR1 5 (v := str (l_5.getD j [])) rfl rfl Tryz.isAgg9 (atS (by omega))) ?_
    refine JL.pure rfl (PO.assign (v := str (l_5.getD j [])) rfl) ?_
    refine JL.nil ?_
    refine JQ.seq ?_
    refine JC.seq ?_
    refine JC.region ?_
    refine JL.pure rfl (PO.move (v := str (l_5.getD j [])) rfl) ?_
    refine JL.op rfl (JO.call [] Tryz.call268 rfl (N_cutSuffix (l_5.getD j []) [47, 112] (by omega)) rfl (fun _ _ => trivial)) ?_
    rintro _ _ ⟨_, ⟨u_19, b_21, e_17, f_20, rfl, rfl⟩, rfl⟩
    refine JL.pure rfl (PO.move (v := .tuple #[str u_19, .bool b_21]) rfl) ?_
    refine JL.pure rfl (PO.extract (v := str u_19) rfl rfl) ?_
    refine JL.pure rfl (PO.extract (v := .bool b_21) rfl rfl) ?_
    refine JL.pure rfl (PO.assign (v := str u_19) rfl) ?_
    refine JL.pure rfl (PO.assign (v := .bool b_21) rfl) ?_
    refine JL.nil ?_
    refine JQ.seq ?_
    refine JC.seq ?_
    refine JC.region ?_
    refine JL.pure rfl (PO.move (v := str (l_5.getD j [])) rfl) ?_
    refine JL.pure rfl (PO.lenS Tryz.underlying9 rfl) ?_
    refine JL.pure rfl (PO.geq rfl rfl) ?_
    refine JL.pure rfl (PO.move (v := .bool (decide (5 ≤ ((l_5.getD j []).length : Int)))) rfl) ?_
    by_cases h_22 : 5 ≤ ((l_5.getD j []).length : Int)
    · skip
      refine JL.guardOn rfl rfl rfl (congrArg Value.bool (decide_eq_true h_22)) (JO.ofLO (LO.pure (PO.move (v := .bool b_21) rfl))) ?_
      rintro _ _ ⟨rfl, rfl⟩
      refine JL.pure rfl (PO.pickT (v := .bool b_21) (congrArg Value.bool (decide_eq_true h_22)) rfl) ?_
      refine JL.pure rfl (PO.move (v := .bool b_21) rfl) ?_
      rcases Bool.eq_false_or_eq_true (b_21) with h_23 | h_23
      · skip
        have hkid := cutSuf_kid e_17 h_22
        rw [h_23] at hkid
        rw [h_23] at e_17
        obtain ⟨hu, hu3⟩ := cutSuf_kidT e_17 h_22
        refine JL.guardOn rfl rfl rfl (congrArg Value.bool h_23) (JO.ofLO (LO.pure (PO.move (v := .pointer (some ⟨p, 0, none⟩)) he_8))) ?_
        rintro _ _ ⟨rfl, rfl⟩
        refine JL.guardOn rfl rfl rfl (congrArg Value.bool h_23) (JO.ofLO (LO.pure (PO.move (v := str (l_5.getD j [])) rfl))) ?_
        rintro _ _ ⟨rfl, rfl⟩
        refine JL.guardOn rfl rfl rfl (congrArg Value.bool h_23) (JO.call [0, 0, 0, 0] Tryz.call170 rfl (N_num p x mm hkmm (by omega) (by omega) (l_5.getD j [])) rfl (fun _ _ => trivial)) ?_
        rintro _ _ ⟨_, ⟨x_26, m_27, n_28, e_24, k_25, f_29, rfl, rfl⟩, rfl⟩
        refine JL.guardOn rfl rfl rfl (congrArg Value.bool h_23) (JO.ofLO (LO.pure (PO.move (v := .int .i64 parent) he_9))) ?_
        rintro _ _ ⟨rfl, rfl⟩
        refine JL.guardOn rfl rfl rfl (congrArg Value.bool h_23) (JO.ofLO (LO.pure (PO.eqlI rfl rfl))) ?_
        rintro _ _ ⟨rfl, rfl⟩
        refine JL.pure rfl (PO.pickT (v := .bool (decide (n_28 = parent))) (congrArg Value.bool h_23) rfl) ?_
        refine JL.nil ?_
        refine JQ.seq ?_
        by_cases h_30 : n_28 = parent
        · skip
          refine JC.condT (congrArg Value.bool (decide_eq_true h_30)) ?_
          refine JC.region ?_
          refine JL.pure rfl (PO.move (v := .slice out_a out_.length out_c) he_11) ?_
          refine JL.pure rfl (PO.move (v := str u_19) rfl) ?_
          refine JL.pure rfl (PO.sliceSl (i := 2) Tryz.underlying9 rfl rfl (by omega)) ?_
          refine JL.op rfl (JO.call [] Tryz.call221 rfl (N_numOf (u_19.drop 2) (by first | omega | (simp only [List.length_append, List.length_cons, List.length_nil, List.length_take, List.length_drop]; omega))) rfl (fun _ _ => trivial)) ?_
          rintro _ _ ⟨_, ⟨n_33, e_31, f_34, rfl, rfl⟩, rfl⟩
          refine JL.op rfl (JO.buildSlice (ps := [(0, .int .i64 n_33)]) (cur := #[.int .i64 n_33]) Tryz.underlying70 Tryz.sizeOf3 Tryz.zeroValue3 rfl (by kernel_rfl) (by decide) (by decide)) ?_
          rintro _ _ ⟨a_35, rfl, rfl⟩
          refine JL.op rfl (JO.append' 5 (q := 1) (news := ([n_33] : List Int).map (Value.int .i64)) (n' := (out_ ++ ([n_33] : List Int)).length) (cs' := (out_ ++ ([n_33] : List Int)).map (Value.int .i64)) rfl Tryz.underlying70 Tryz.underlying70 Tryz.typeInfo3 rfl (by' := 8) rfl rfl rfl rfl rfl (fun w hw => Src.sees (hw.see (i := 0) rfl) (oneI _)) (by (try simp only [List.length_append, List.length_cons, List.length_nil, List.length_take, List.length_drop]); omega) (by (try simp only [List.length_append, List.length_cons, List.length_nil, List.length_take, List.length_drop]); omega) (by simp only [List.length_append, List.length_take, List.length_drop, List.length_cons, List.length_nil] <;> first | rfl | omega) (by simp only [List.map_append])) ?_
          rintro _ _ ⟨a_36, c_37, rfl, rfl⟩
          refine JL.pure rfl (PO.assign (v := .slice a_36 ((out_ ++ ([n_33] : List Int)).length) c_37) rfl) ?_
          refine JL.nil ?_
          refine JQ.blockN ?_
          refine JQ.seq ?_
          refine JC.region ?_
          refine JL.pure rfl (PO.add (c := ((j + 1 : Nat) : Int)) he_14 rfl (wr (by omega))) ?_
          refine JL.pure rfl (PO.move (v := .int .i64 ((j + 1 : Nat) : Int)) rfl) ?_
          refine JL.nil ?_
          refine JQ.pick [1, 1, 1, 1, 1, 1] (A := [mb p x_26 m_27, rC x_26.a0 x_26.c0 m_27.s, rS x_26.a1 x_26.c1 m_27.r, rS x_26.a2 x_26.c2 m_27.w, rI a_36 c_37 (out_ ++ ([n_33] : List Int)), rS l_5a l_5c l_5]) rfl ?_
          refine JQ.again (l_5.length - (j + 1)) (by omega) ⟨j + 1, x_26, m_27, a_36, c_37, (out_ ++ ([n_33] : List Int)), by omega, (k_25.mono (by omega) (by omega)), (by first | omega | (simp only [List.length_append, List.length_cons, List.length_nil, List.length_take, List.length_drop]; omega)), (by rw [drop_at (getD_some (d := []) hlt)] at hR; simp only [MS.kidsL, e_1, h_15, e_17, h_22, h_23, hkid, hu, e_24, h_30, e_31, if_true, if_false, Bool.false_eq_true, Bool.not_true, Bool.not_false] at hR; (repeat (first | rw [if_pos (by omega)] at hR | rw [if_neg (by omega)] at hR)); exact hR), he_8, he_9, he_10, rfl, he_12, he_13, rfl, rfl, rfl⟩
        · skip
          refine JC.condF (congrArg Value.bool (decide_eq_false h_30)) ?_
          refine JC.skip ?_
          refine JQ.blockN ?_
          refine JQ.seq ?_
          refine JC.region ?_
          refine JL.pure rfl (PO.add (c := ((j + 1 : Nat) : Int)) he_14 rfl (wr (by omega))) ?_
          refine JL.pure rfl (PO.move (v := .int .i64 ((j + 1 : Nat) : Int)) rfl) ?_
          refine JL.nil ?_
          refine JQ.pick [0, 0, 0, 0, 0, 0] (A := [mb p x_26 m_27, rC x_26.a0 x_26.c0 m_27.s, rS x_26.a1 x_26.c1 m_27.r, rS x_26.a2 x_26.c2 m_27.w, rI out_a out_c out_, rS l_5a l_5c l_5]) rfl ?_
          refine JQ.again (l_5.length - (j + 1)) (by omega) ⟨j + 1, x_26, m_27, out_a, out_c, out_, by omega, (k_25.mono (by omega) (by omega)), (by first | omega | (simp only [List.length_append, List.length_cons, List.length_nil, List.length_take, List.length_drop]; omega)), (by rw [drop_at (getD_some (d := []) hlt)] at hR; simp only [MS.kidsL, e_1, h_15, e_17, h_22, h_23, hkid, hu, e_24, h_30, if_true, if_false, Bool.false_eq_true, Bool.not_true, Bool.not_false] at hR; (repeat (first | rw [if_pos (by omega)] at hR | rw [if_neg (by omega)] at hR)); exact hR), he_8, he_9, he_10, he_11, he_12, he_13, rfl, rfl, rfl⟩
      · skip
        have hkid := cutSuf_kid e_17 h_22
        rw [h_23] at hkid
        refine JL.guardOff (b := false) rfl rfl rfl (congrArg Value.bool h_23) ?_
        refine JL.guardOff (b := false) rfl rfl rfl (congrArg Value.bool h_23) ?_
        refine JL.guardOff (b := false) rfl rfl rfl (congrArg Value.bool h_23) ?_
        refine JL.guardOff (b := false) rfl rfl rfl (congrArg Value.bool h_23) ?_
        refine JL.guardOff (b := false) rfl rfl rfl (congrArg Value.bool h_23) ?_
        refine JL.pure rfl (PO.pickF (v := .bool false) (congrArg Value.bool h_23) rfl) ?_
        refine JL.nil ?_
        refine JQ.seq ?_
        refine JC.condF (congrArg Value.bool rfl) ?_
        refine JC.skip ?_
        refine JQ.blockN ?_
        refine JQ.seq ?_
        refine JC.region ?_
        refine JL.pure rfl (PO.add (c := ((j + 1 : Nat) : Int)) he_14 rfl (wr (by omega))) ?_
        refine JL.pure rfl (PO.move (v := .int .i64 ((j + 1 : Nat) : Int)) rfl) ?_
        refine JL.nil ?_
        refine JQ.pick [0, 0, 0, 0, 0, 0] (A := [mb p x mm, rC x.a0 x.c0 mm.s, rS x.a1 x.c1 mm.r, rS x.a2 x.c2 mm.w, rI out_a out_c out_, rS l_5a l_5c l_5]) rfl ?_
        refine JQ.again (l_5.length - (j + 1)) (by omega) ⟨j + 1, x, mm, out_a, out_c, out_, by omega, (hkmm.mono (by omega) (by omega)), (by first | omega | (simp only [List.length_append, List.length_cons, List.length_nil, List.length_take, List.length_drop]; omega)), (by rw [drop_at (getD_some (d := []) hlt)] at hR; simp only [MS.kidsL, e_1, h_15, e_17, h_22, h_23, hkid, if_true, if_false, Bool.false_eq_true, Bool.not_true, Bool.not_false] at hR; (repeat (first | rw [if_pos (by omega)] at hR | rw [if_neg (by omega)] at hR)); exact hR), he_8, he_9, he_10, he_11, he_12, he_13, rfl, rfl, rfl⟩
    · skip
      have hkid := isKid_short h_22
      refine JL.guardOff (b := false) rfl rfl rfl (congrArg Value.bool (decide_eq_false h_22)) ?_
      refine JL.pure rfl (PO.pickF (v := .bool false) (congrArg Value.bool (decide_eq_false h_22)) rfl) ?_
      refine JL.pure rfl (PO.move (v := .bool false) rfl) ?_
      refine JL.guardOff (b := false) rfl rfl rfl (congrArg Value.bool rfl) ?_
      refine JL.guardOff (b := false) rfl rfl rfl (congrArg Value.bool rfl) ?_
      refine JL.guardOff (b := false) rfl rfl rfl (congrArg Value.bool rfl) ?_
      refine JL.guardOff (b := false) rfl rfl rfl (congrArg Value.bool rfl) ?_
      refine JL.guardOff (b := false) rfl rfl rfl (congrArg Value.bool rfl) ?_
      refine JL.pure rfl (PO.pickF (v := .bool false) (congrArg Value.bool rfl) rfl) ?_
      refine JL.nil ?_
      refine JQ.seq ?_
      refine JC.condF (congrArg Value.bool rfl) ?_
      refine JC.skip ?_
      refine JQ.blockN ?_
      refine JQ.seq ?_
      refine JC.region ?_
      refine JL.pure rfl (PO.add (c := ((j + 1 : Nat) : Int)) he_14 rfl (wr (by omega))) ?_
      refine JL.pure rfl (PO.move (v := .int .i64 ((j + 1 : Nat) : Int)) rfl) ?_
      refine JL.nil ?_
      refine JQ.pick [0, 0, 0, 0, 0, 0] (A := [mb p x mm, rC x.a0 x.c0 mm.s, rS x.a1 x.c1 mm.r, rS x.a2 x.c2 mm.w, rI out_a out_c out_, rS l_5a l_5c l_5]) rfl ?_
      refine JQ.again (l_5.length - (j + 1)) (by omega) ⟨j + 1, x, mm, out_a, out_c, out_, by omega, (hkmm.mono (by omega) (by omega)), (by first | omega | (simp only [List.length_append, List.length_cons, List.length_nil, List.length_take, List.length_drop]; omega)), (by rw [drop_at (getD_some (d := []) hlt)] at hR; simp only [MS.kidsL, e_1, h_15, e_17, h_22, hkid, if_true, if_false, Bool.false_eq_true, Bool.not_true, Bool.not_false] at hR; (repeat (first | rw [if_pos (by omega)] at hR | rw [if_neg (by omega)] at hR)); exact hR), he_8, he_9, he_10, he_11, he_12, he_13, rfl, rfl, rfl⟩
  · skip
    rw [List.drop_of_length_le (by omega)] at hR
    simp only [MS.kidsL] at hR
    have hE := hR.symm
    refine JC.condF (congrArg Value.bool (decide_eq_false h_15)) ?_
    refine JC.exit ?_
    refine JQ.thenExit ?_
    refine JQ.thenExit ?_
    refine JQ.blockE ?_
    refine JQ.seq ?_
    refine JC.seq ?_
    refine JC.region ?_
    refine JL.pure rfl (PO.move (v := .slice out_a out_.length out_c) he_11) ?_
    refine JL.pure rfl (PO.assign (v := .slice out_a out_.length out_c) rfl) ?_
    refine JL.nil ?_
    refine JQ.seq ?_
    refine JC.ret ?_
    refine Done.one (.inl rfl) rfl (RV.tmp (v := .slice out_a out_.length out_c) rfl) (List.sublist_append_left [mb p x mm, rC x.a0 x.c0 mm.s, rS x.a1 x.c1 mm.r, rS x.a2 x.c2 mm.w, rI out_a out_c out_] [rS l_5a l_5c l_5]) ?_
    exact ⟨x, mm, out_a, out_c, out_, (by simp only [MS.kids, e_1, h_15, hE, if_true, if_false, Bool.false_eq_true, Bool.not_true, Bool.not_false]; (repeat (first | rw [if_pos (by omega)] | rw [if_neg (by omega)])); all_goals (first | rfl | simp only [if_true, if_false, Bool.false_eq_true, Bool.not_true, Bool.not_false, e_1, h_15, hE])), (hkmm.mono (by omega) (by omega)), (by first | omega | (simp only [List.length_append, List.length_cons, List.length_nil, List.length_take, List.length_drop]; omega)), rfl, rfl⟩

theorem M_kids (x : MA) (m : MS) {S T : Nat} (hk : m.ok S T) (hS : S ≤ 50000000) (hT : T ≤ 50000000) (parent : Int) (hparent : -9223372036854775808 ≤ parent ∧ parent ≤ 9223372036854775807) :
    Ct Tryz.prog 185 [mv x m, .int .i64 parent] (mr x m) (fun _ => True) (fun v A' => ∃ x' m' r0a r0c r0, MS.kids m parent = (m', r0) ∧ m'.ok (S) (T + S + 1) ∧ r0.length ≤ S ∧ v = .tuple #[mv x' m', .slice r0a r0.length r0c] ∧ A' = mr x' m' ++ [rI r0a r0c r0]) := by
  refine Ct.intro Tryz.func185 rfl Tryz.ntmps185 (Nat.le_of_ble_eq_true rfl) fun w0 hpre => ?_
  refine JC.seq ?_
  refine JC.region ?_
  refine JL.op rfl (JO.box (cs := [.slice x.a0 m.s.length x.c0, .slice x.a1 m.r.length x.c1, .slice x.a2 m.w.length x.c2]) rfl rfl) ?_
  rintro _ _ ⟨b_1, rfl, rfl⟩
  refine JL.op rfl (JO.alloc (z := .agg #[.slice none 0 0, .slice none 0 0, .slice none 0 0]) (cs := [.slice none 0 0, .slice none 0 0, .slice none 0 0]) Tryz.zeroValue32 rfl) ?_
  rintro _ _ ⟨b_2, rfl, rfl⟩
  refine JL.pure rfl (PO.assign (v := .slice none 0 0) rfl) ?_
  refine JL.nil ?_
  refine JQ.seq ?_
  refine JC.seq ?_
  refine JC.region ?_
  refine JL.ld rfl (LO.loadK 1 (vs := [.slice x.a0 m.s.length x.c0, .slice x.a1 m.r.length x.c1, .slice x.a2 m.w.length x.c2]) rfl rfl Tryz.isAgg32 Tryz.sizeOf32 rfl rfl) ?_
  refine JL.op rfl (JO.call [2, 2, 2] Tryz.call261 rfl (N_sUnder x m hk (by omega) (by omega) [114, 47] (by decide)) rfl (fun _ _ => trivial)) ?_
  rintro _ _ ⟨_, ⟨x_5, m_6, l_7a, l_7c, l_7, e_3, k_4, f_8, rfl, rfl⟩, rfl⟩
  refine JL.pure rfl (PO.move (v := .tuple #[mv x_5 m_6, .slice l_7a l_7.length l_7c]) rfl) ?_
  refine JL.pure rfl (PO.extract (v := mv x_5 m_6) rfl rfl) ?_
  refine JL.pure rfl (PO.extract (v := .slice l_7a l_7.length l_7c) rfl rfl) ?_
  refine JL.op rfl (JO.store 5 (vs := [.slice x_5.a0 m_6.s.length x_5.c0, .slice x_5.a1 m_6.r.length x_5.c1, .slice x_5.a2 m_6.w.length x_5.c2]) (cs' := [.slice x_5.a0 m_6.s.length x_5.c0, .slice x_5.a1 m_6.r.length x_5.c1, .slice x_5.a2 m_6.w.length x_5.c2]) rfl rfl rfl rfl Tryz.sizeOf32 rfl rfl (Nat.le_of_ble_eq_true rfl) rfl) ?_
  rintro _ _ rfl
  refine JL.pure rfl (PO.assign (v := .slice l_7a l_7.length l_7c) rfl) ?_
  refine JL.nil ?_
  refine JQ.seq ?_
  refine JC.seq ?_
  refine JC.region ?_
  refine JL.op rfl (JO.buildSlice (ps := []) (cur := #[]) Tryz.underlying70 Tryz.sizeOf3 Tryz.zeroValue3 rfl (by kernel_rfl) (by decide) (by decide)) ?_
  rintro _ _ ⟨a_9, rfl, rfl⟩
  refine JL.pure rfl (PO.assign (v := .slice a_9 0 0) rfl) ?_
  refine JL.nil ?_
  refine JQ.seq ?_
  refine JC.seq ?_
  refine JC.seq ?_
  refine JC.region ?_
  refine JL.pure rfl (PO.assign (v := .int .i64 0) rfl) ?_
  refine JL.nil ?_
  refine JQ.seq ?_
  refine JC.block ?_
  have hll := f_8.1
  refine JC.perm (pick_perm [6, 1, 1, 1, 0, 0, 0] (A := [mb b_1 x_5 m_6, rC x_5.a0 x_5.c0 m_6.s, rS x_5.a1 x_5.c1 m_6.r, rS x_5.a2 x_5.c2 m_6.w, Res.row (.slice a_9 0 0) 3 1 0 (([] : List Int).map (Value.int .i64)), rS l_7a l_7c l_7, bk b_2 32 [.slice none 0 0, .slice none 0 0, .slice none 0 0]]) (F := []) rfl).symm ?_
  refine JC.loop (fun k_ e_ L_ => ∃ j : Nat, ∃ x : MA, ∃ mm : MS, ∃ out_a : Option Addr, ∃ out_c : Nat, ∃ out_ : List Int, (j ≤ l_7.length) ∧ (mm.ok (S) (T + 1 + j)) ∧ (out_.length ≤ j) ∧ (MS.kidsL parent (l_7.drop j) mm out_ = MS.kidsL parent l_7 m_6 ([] : List Int)) ∧ e_ 1 = .int .i64 parent ∧ e_ 2 = .pointer (some ⟨b_1, 0, none⟩) ∧ e_ 4 = .pointer (some ⟨b_2, 0, none⟩) ∧ e_ 5 = .slice none 0 0 ∧ e_ 6 = .slice l_7a l_7.length l_7c ∧ e_ 7 = .slice out_a out_.length out_c ∧ e_ 8 = .int .i64 ((j : Nat) : Int) ∧ L_ = [mb b_1 x mm, rC x.a0 x.c0 mm.s, rS x.a1 x.c1 mm.r, rS x.a2 x.c2 mm.w, rI out_a out_c out_, rS l_7a l_7c l_7, bk b_2 32 [.slice none 0 0, .slice none 0 0, .slice none 0 0]] ∧ k_ = l_7.length - j) _ ⟨0, x_5, m_6, a_9, 0, ([] : List Int), by omega, (k_4.mono (by omega) (by omega)), (by first | omega | (simp only [List.length_append, List.length_cons, List.length_nil, List.length_take, List.length_drop]; omega)), rfl, rfl, rfl, rfl, rfl, rfl, rfl, rfl, rfl, rfl⟩ ?_
  rintro _ e_10 _ ⟨j, x, mm, out_a, out_c, out_, hj, hkmm, ho, hR, he_11, he_12, he_13, he_14, he_15, he_16, he_17, rfl, rfl⟩
  refine JC.seq ?_
  refine JC.seq ?_
  refine JC.region ?_
  refine JL.pure rfl (PO.move (v := .int .i64 ((j : Nat) : Int)) he_17) ?_
  refine JL.pure rfl (PO.move (v := .slice l_7a l_7.length l_7c) he_15) ?_
  refine JL.pure rfl (PO.lenV Tryz.underlying23 rfl) ?_
  refine JL.pure rfl (PO.lss rfl rfl) ?_
  refine JL.nil ?_
  refine JQ.seq ?_
  by_cases h_18 : ((j : Nat) : Int) < ((l_7.length : Nat) : Int)
  · skip
    have hlt : j < l_7.length := by omega
    have hbj := f_8.2 j hlt
    try simp only [List.length_cons, List.length_nil] at hbj
    refine JC.condT (congrArg Value.bool (decide_eq_true h_18)) ?_
    refine JC.skip ?_
    refine JQ.seq ?_
    refine JC.seq ?_
    refine JC.block ?_
    refine JC.seq ?_
    refine JC.region ?_
    refine JL.pure rfl (PO.move (v := .slice l_7a l_7.length l_7c) he_15) ?_
    refine JL.pure rfl (PO.move (v := .int .i64 ((j : Nat) : Int)) he_17) ?_
    refine JL.facts fun hst => ?_
    obtain ⟨hr_19, hr_19b, -⟩ := row_some 5 rfl (by omega) hst
    refine JL.pure rfl (PO.indexAddrV (i := j) Tryz.underlying23 Tryz.sizeOf9 hr_19 hr_19b rfl rfl (by omega)) ?_
    refine JL.ld rfl (LO.loadR1 5 (v := str (l_7.getD j [])) rfl rfl Tryz.isAgg9 (atS (by omega))) ?_
    refine JL.pure rfl (PO.assign (v := str (l_7.getD j [])) rfl) ?_
    refine JL.nil ?_
    refine JQ.seq ?_
    refine JC.seq ?_
    refine JC.seq ?_
    refine JC.region ?_
    refine JL.pure rfl (PO.move (v := str (l_7.getD j [])) rfl) ?_
    refine JL.pure rfl (PO.lenS Tryz.underlying9 rfl) ?_
    refine JL.pure rfl (PO.lss rfl rfl) ?_
    refine JL.pure rfl (PO.move (v := .bool (decide (((l_7.getD j []).length : Int) < 5))) rfl) ?_
    by_cases h_20 : ((l_7.getD j []).length : Int) < 5
    · skip
      have hkid := isKid_short' h_20
      refine JL.guardOff (b := true) rfl rfl rfl (congrArg Value.bool (decide_eq_true h_20)) ?_
      refine JL.guardOff (b := true) rfl rfl rfl (congrArg Value.bool (decide_eq_true h_20)) ?_
      refine JL.guardOff (b := true) rfl rfl rfl (congrArg Value.bool (decide_eq_true h_20)) ?_
      refine JL.guardOff (b := true) rfl rfl rfl (congrArg Value.bool (decide_eq_true h_20)) ?_
      refine JL.guardOff (b := true) rfl rfl rfl (congrArg Value.bool (decide_eq_true h_20)) ?_
      refine JL.guardOff (b := true) rfl rfl rfl (congrArg Value.bool (decide_eq_true h_20)) ?_
      refine JL.pure rfl (PO.pickT (v := .bool true) (congrArg Value.bool (decide_eq_true h_20)) rfl) ?_
      refine JL.nil ?_
      refine JQ.seq ?_
      refine JC.condT (congrArg Value.bool rfl) ?_
      refine JC.exit ?_
      refine JQ.thenExit ?_
      refine JQ.blockE ?_
      refine JQ.seq ?_
      refine JC.region ?_
      refine JL.pure rfl (PO.move (v := .int .i64 ((j : Nat) : Int)) he_17) ?_
      refine JL.pure rfl (PO.add (c := ((j + 1 : Nat) : Int)) rfl rfl (wr (by omega))) ?_
      refine JL.pure rfl (PO.assign (v := .int .i64 ((j + 1 : Nat) : Int)) rfl) ?_
      refine JL.nil ?_
      refine JQ.pick [0, 0, 0, 0, 0, 0, 0] (A := [mb b_1 x mm, rC x.a0 x.c0 mm.s, rS x.a1 x.c1 mm.r, rS x.a2 x.c2 mm.w, rI out_a out_c out_, rS l_7a l_7c l_7, bk b_2 32 [.slice none 0 0, .slice none 0 0, .slice none 0 0]]) rfl ?_
      refine JQ.again (l_7.length - (j + 1)) (by omega) ⟨j + 1, x, mm, out_a, out_c, out_, by omega, (hkmm.mono (by omega) (by omega)), (by first | omega | (simp only [List.length_append, List.length_cons, List.length_nil, List.length_take, List.length_drop]; omega)), (by rw [drop_at (getD_some (d := []) hlt)] at hR; simp only [MS.kidsL, drop_take2, e_3, h_18, h_20, hkid, if_true, if_false, Bool.false_eq_true, Bool.not_true, Bool.not_false] at hR; (repeat (first | rw [if_pos (by omega)] at hR | rw [if_neg (by omega)] at hR)); exact hR), he_11, he_12, he_13, he_14, he_15, he_16, rfl, rfl, rfl⟩
    · skip
      refine JL.guardOn rfl rfl rfl (congrArg Value.bool (decide_eq_false h_20)) (JO.ofLO (LO.pure (PO.move (v := str (l_7.getD j [])) rfl))) ?_
      rintro _ _ ⟨rfl, rfl⟩
      refine JL.guardOn rfl rfl rfl (congrArg Value.bool (decide_eq_false h_20)) (JO.ofLO (LO.pure (PO.move (v := str (l_7.getD j [])) rfl))) ?_
      rintro _ _ ⟨rfl, rfl⟩
      refine JL.guardOn rfl rfl rfl (congrArg Value.bool (decide_eq_false h_20)) (JO.ofLO (LO.pure (PO.lenS Tryz.underlying9 rfl))) ?_
      rintro _ _ ⟨rfl, rfl⟩
      refine JL.guardOn rfl rfl rfl (congrArg Value.bool (decide_eq_false h_20)) (JO.ofLO (LO.pure (PO.sub (c := ((((l_7.getD j []).length) - 2 : Nat) : Int)) rfl rfl (wr (by omega))))) ?_
      rintro _ _ ⟨rfl, rfl⟩
      refine JL.guardOn rfl rfl rfl (congrArg Value.bool (decide_eq_false h_20)) (JO.ofLO (LO.pure (PO.sliceSl (i := (((l_7.getD j []).length) - 2)) Tryz.underlying9 rfl rfl (by omega)))) ?_
      rintro _ _ ⟨rfl, rfl⟩
      refine JL.guardOn rfl rfl rfl (congrArg Value.bool (decide_eq_false h_20)) (JO.ofLO (LO.pure (PO.neqS rfl rfl))) ?_
      rintro _ _ ⟨rfl, rfl⟩
      refine JL.pure rfl (PO.pickF (v := .bool (!(decide (((l_7.getD j []).drop (((l_7.getD j []).length) - 2)) = [47, 112])))) (congrArg Value.bool (decide_eq_false h_20)) rfl) ?_
      refine JL.nil ?_
      refine JQ.seq ?_
      by_cases h_21 : ((l_7.getD j []).drop (((l_7.getD j []).length) - 2)) = [47, 112]
      · skip
        have hkid := isKid_yes (by omega) h_21
        refine JC.condF (congrArg Value.bool (congrArg Bool.not (decide_eq_true h_21))) ?_
        refine JC.skip ?_
        refine JQ.seq ?_
        refine JC.seq ?_
        refine JC.region ?_
        refine JL.pure rfl (PO.assign (v := .int .i64 0) rfl) ?_
        refine JL.nil ?_
        refine JQ.seq ?_
        refine JC.seq ?_
        refine JC.region ?_
        refine JL.ld rfl (LO.loadK 0 (vs := [.slice x.a0 mm.s.length x.c0, .slice x.a1 mm.r.length x.c1, .slice x.a2 mm.w.length x.c2]) rfl he_12 Tryz.isAgg32 Tryz.sizeOf32 rfl rfl) ?_
        refine JL.pure rfl (PO.move (v := str (l_7.getD j [])) rfl) ?_
        refine JL.op rfl (JO.call [1, 1, 1] Tryz.call228 rfl (N_sNumAt x mm hkmm (by omega) (by omega) (l_7.getD j [])) rfl (fun _ _ => trivial)) ?_
        rintro _ _ ⟨_, ⟨x_24, m_25, n_26, e_22, k_23, f_27, rfl, rfl⟩, rfl⟩
        refine JL.pure rfl (PO.move (v := .tuple #[mv x_24 m_25, .int .i64 n_26]) rfl) ?_
        refine JL.pure rfl (PO.extract (v := mv x_24 m_25) rfl rfl) ?_
        refine JL.pure rfl (PO.extract (v := .int .i64 n_26) rfl rfl) ?_
        refine JL.op rfl (JO.store 3 (vs := [.slice x_24.a0 m_25.s.length x_24.c0, .slice x_24.a1 m_25.r.length x_24.c1, .slice x_24.a2 m_25.w.length x_24.c2]) (cs' := [.slice x_24.a0 m_25.s.length x_24.c0, .slice x_24.a1 m_25.r.length x_24.c1, .slice x_24.a2 m_25.w.length x_24.c2]) rfl he_12 rfl rfl Tryz.sizeOf32 rfl rfl (Nat.le_of_ble_eq_true rfl) rfl) ?_
        rintro _ _ rfl
        refine JL.pure rfl (PO.assign (v := .int .i64 n_26) rfl) ?_
        refine JL.nil ?_
        refine JQ.seq ?_
        refine JC.seq ?_
        refine JC.region ?_
        refine JL.pure rfl (PO.move (v := .int .i64 n_26) rfl) ?_
        refine JL.pure rfl (PO.move (v := .int .i64 parent) he_11) ?_
        refine JL.pure rfl (PO.eqlI rfl rfl) ?_
        refine JL.nil ?_
        refine JQ.seq ?_
        by_cases h_28 : n_26 = parent
        · skip
          refine JC.condT (congrArg Value.bool (decide_eq_true h_28)) ?_
          refine JC.region ?_
          refine JL.pure rfl (PO.move (v := .slice out_a out_.length out_c) he_16) ?_
          refine JL.pure rfl (PO.move (v := str (l_7.getD j [])) rfl) ?_
          refine JL.pure rfl (PO.move (v := str (l_7.getD j [])) rfl) ?_
          refine JL.pure rfl (PO.lenS Tryz.underlying9 rfl) ?_
          refine JL.pure rfl (PO.sub (c := ((((l_7.getD j []).length) - 2 : Nat) : Int)) rfl rfl (wr (by omega))) ?_
          refine JL.pure rfl (PO.sliceS (i := 2) (j := (((l_7.getD j []).length) - 2)) Tryz.underlying9 rfl rfl rfl (by omega) (by omega)) ?_
          refine JL.op rfl (JO.call [] Tryz.call217 rfl (N_sNumOf (((l_7.getD j []).drop 2).take ((((l_7.getD j []).length) - 2) - 2)) (by first | omega | (simp only [List.length_append, List.length_cons, List.length_nil, List.length_take, List.length_drop]; omega))) rfl (fun _ _ => trivial)) ?_
          rintro _ _ ⟨_, ⟨n_31, e_29, f_32, rfl, rfl⟩, rfl⟩
          refine JL.op rfl (JO.buildSlice (ps := [(0, .int .i64 n_31)]) (cur := #[.int .i64 n_31]) Tryz.underlying70 Tryz.sizeOf3 Tryz.zeroValue3 rfl (by kernel_rfl) (by decide) (by decide)) ?_
          rintro _ _ ⟨a_33, rfl, rfl⟩
          refine JL.op rfl (JO.append' 5 (q := 1) (news := ([n_31] : List Int).map (Value.int .i64)) (n' := (out_ ++ ([n_31] : List Int)).length) (cs' := (out_ ++ ([n_31] : List Int)).map (Value.int .i64)) rfl Tryz.underlying70 Tryz.underlying70 Tryz.typeInfo3 rfl (by' := 8) rfl rfl rfl rfl rfl (fun w hw => Src.sees (hw.see (i := 0) rfl) (oneI _)) (by (try simp only [List.length_append, List.length_cons, List.length_nil, List.length_take, List.length_drop]); omega) (by (try simp only [List.length_append, List.length_cons, List.length_nil, List.length_take, List.length_drop]); omega) (by simp only [List.length_append, List.length_take, List.length_drop, List.length_cons, List.length_nil] <;> first | rfl | omega) (by simp only [List.map_append])) ?_
          rintro _ _ ⟨a_34, c_35, rfl, rfl⟩
          refine JL.pure rfl (PO.assign (v := .slice a_34 ((out_ ++ ([n_31] : List Int)).length) c_35) rfl) ?_
          refine JL.nil ?_
          refine JQ.blockN ?_
          refine JQ.seq ?_
          refine JC.region ?_
          refine JL.pure rfl (PO.move (v := .int .i64 ((j : Nat) : Int)) he_17) ?_
          refine JL.pure rfl (PO.add (c := ((j + 1 : Nat) : Int)) rfl rfl (wr (by omega))) ?_
          refine JL.pure rfl (PO.assign (v := .int .i64 ((j + 1 : Nat) : Int)) rfl) ?_
          refine JL.nil ?_
          refine JQ.pick [4, 1, 1, 1, 1, 1, 1] (A := [mb b_1 x_24 m_25, rC x_24.a0 x_24.c0 m_25.s, rS x_24.a1 x_24.c1 m_25.r, rS x_24.a2 x_24.c2 m_25.w, rI a_34 c_35 (out_ ++ ([n_31] : List Int)), rS l_7a l_7c l_7, bk b_2 32 [.slice none 0 0, .slice none 0 0, .slice none 0 0]]) rfl ?_
          refine JQ.again (l_7.length - (j + 1)) (by omega) ⟨j + 1, x_24, m_25, a_34, c_35, (out_ ++ ([n_31] : List Int)), by omega, (k_23.mono (by omega) (by omega)), (by first | omega | (simp only [List.length_append, List.length_cons, List.length_nil, List.length_take, List.length_drop]; omega)), (by rw [drop_at (getD_some (d := []) hlt)] at hR; simp only [MS.kidsL, drop_take2, e_3, h_18, h_20, h_21, hkid, e_22, h_28, e_29, if_true, if_false, Bool.false_eq_true, Bool.not_true, Bool.not_false] at hR; (repeat (first | rw [if_pos (by omega)] at hR | rw [if_neg (by omega)] at hR)); exact hR), he_11, he_12, he_13, he_14, he_15, rfl, rfl, rfl, rfl⟩
        · skip
          refine JC.condF (congrArg Value.bool (decide_eq_false h_28)) ?_
          refine JC.skip ?_
          refine JQ.blockN ?_
          refine JQ.seq ?_
          refine JC.region ?_
          refine JL.pure rfl (PO.move (v := .int .i64 ((j : Nat) : Int)) he_17) ?_
          refine JL.pure rfl (PO.add (c := ((j + 1 : Nat) : Int)) rfl rfl (wr (by omega))) ?_
          refine JL.pure rfl (PO.assign (v := .int .i64 ((j + 1 : Nat) : Int)) rfl) ?_
          refine JL.nil ?_
          refine JQ.pick [3, 0, 0, 0, 0, 0, 0] (A := [mb b_1 x_24 m_25, rC x_24.a0 x_24.c0 m_25.s, rS x_24.a1 x_24.c1 m_25.r, rS x_24.a2 x_24.c2 m_25.w, rI out_a out_c out_, rS l_7a l_7c l_7, bk b_2 32 [.slice none 0 0, .slice none 0 0, .slice none 0 0]]) rfl ?_
          refine JQ.again (l_7.length - (j + 1)) (by omega) ⟨j + 1, x_24, m_25, out_a, out_c, out_, by omega, (k_23.mono (by omega) (by omega)), (by first | omega | (simp only [List.length_append, List.length_cons, List.length_nil, List.length_take, List.length_drop]; omega)), (by rw [drop_at (getD_some (d := []) hlt)] at hR; simp only [MS.kidsL, drop_take2, e_3, h_18, h_20, h_21, hkid, e_22, h_28, if_true, if_false, Bool.false_eq_true, Bool.not_true, Bool.not_false] at hR; (repeat (first | rw [if_pos (by omega)] at hR | rw [if_neg (by omega)] at hR)); exact hR), he_11, he_12, he_13, he_14, he_15, he_16, rfl, rfl, rfl⟩
      · skip
        have hkid := isKid_no h_21
        refine JC.condT (congrArg Value.bool (congrArg Bool.not (decide_eq_false h_21))) ?_
        refine JC.exit ?_
        refine JQ.thenExit ?_
        refine JQ.blockE ?_
        refine JQ.seq ?_
        refine JC.region ?_
        refine JL.pure rfl (PO.move (v := .int .i64 ((j : Nat) : Int)) he_17) ?_
        refine JL.pure rfl (PO.add (c := ((j + 1 : Nat) : Int)) rfl rfl (wr (by omega))) ?_
        refine JL.pure rfl (PO.assign (v := .int .i64 ((j + 1 : Nat) : Int)) rfl) ?_
        refine JL.nil ?_
        refine JQ.pick [0, 0, 0, 0, 0, 0, 0] (A := [mb b_1 x mm, rC x.a0 x.c0 mm.s, rS x.a1 x.c1 mm.r, rS x.a2 x.c2 mm.w, rI out_a out_c out_, rS l_7a l_7c l_7, bk b_2 32 [.slice none 0 0, .slice none 0 0, .slice none 0 0]]) rfl ?_
        refine JQ.again (l_7.length - (j + 1)) (by omega) ⟨j + 1, x, mm, out_a, out_c, out_, by omega, (hkmm.mono (by omega) (by omega)), (by first | omega | (simp only [List.length_append, List.length_cons, List.length_nil, List.length_take, List.length_drop]; omega)), (by rw [drop_at (getD_some (d := []) hlt)] at hR; simp only [MS.kidsL, drop_take2, e_3, h_18, h_20, h_21, hkid, if_true, if_false, Bool.false_eq_true, Bool.not_true, Bool.not_false] at hR; (repeat (first | rw [if_pos (by omega)] at hR | rw [if_neg (by omega)] at hR)); exact hR), he_11, he_12, he_13, he_14, he_15, he_16, rfl, rfl, rfl⟩
  · skip
    rw [List.drop_of_length_le (by omega)] at hR
    simp only [MS.kidsL, drop_take2] at hR
    have hE := hR.symm
    refine JC.condF (congrArg Value.bool (decide_eq_false h_18)) ?_
    refine JC.exit ?_
    refine JQ.thenExit ?_
    refine JQ.thenExit ?_
    refine JQ.blockE ?_
    refine JQ.seq ?_
    refine JC.seq ?_
    refine JC.region ?_
    refine JL.ld rfl (LO.loadK 0 (vs := [.slice x.a0 mm.s.length x.c0, .slice x.a1 mm.r.length x.c1, .slice x.a2 mm.w.length x.c2]) rfl he_12 Tryz.isAgg32 Tryz.sizeOf32 rfl rfl) ?_
    refine JL.pure rfl (PO.move (v := .slice out_a out_.length out_c) he_16) ?_
    refine JL.op rfl (JO.store 6 (vs := [.slice x.a0 mm.s.length x.c0, .slice x.a1 mm.r.length x.c1, .slice x.a2 mm.w.length x.c2]) (cs' := [.slice x.a0 mm.s.length x.c0, .slice x.a1 mm.r.length x.c1, .slice x.a2 mm.w.length x.c2]) rfl he_13 rfl rfl Tryz.sizeOf32 rfl rfl (Nat.le_of_ble_eq_true rfl) rfl) ?_
    rintro _ _ rfl
    refine JL.pure rfl (PO.assign (v := .slice out_a out_.length out_c) rfl) ?_
    refine JL.nil ?_
    refine JQ.seq ?_
    refine JC.ret ?_
    refine JQ.perm (pick_perm [1, 1, 1, 1] (A := [rC x.a0 x.c0 mm.s, rS x.a1 x.c1 mm.r, rS x.a2 x.c2 mm.w, rI out_a out_c out_]) (F := [mb b_1 x mm, rS l_7a l_7c l_7, mb b_2 x mm]) rfl).symm ?_
    refine Done.two (.inl rfl) rfl (RV.cell1 (LO.loadK 6 (vs := [.slice x.a0 mm.s.length x.c0, .slice x.a1 mm.r.length x.c1, .slice x.a2 mm.w.length x.c2]) rfl he_13 Tryz.isAgg32 Tryz.sizeOf32 rfl rfl) ⟨_, he_13⟩) (RV.tmp (v := .slice out_a out_.length out_c) rfl) (List.sublist_append_left [rC x.a0 x.c0 mm.s, rS x.a1 x.c1 mm.r, rS x.a2 x.c2 mm.w, rI out_a out_c out_] [mb b_1 x mm, rS l_7a l_7c l_7, mb b_2 x mm]) ?_
    exact ⟨x, mm, out_a, out_c, out_, (by simp only [MS.kids, e_3, h_18, hE, if_true, if_false, Bool.false_eq_true, Bool.not_true, Bool.not_false]; (repeat (first | rw [if_pos (by omega)] | rw [if_neg (by omega)])); all_goals (first | rfl | simp only [if_true, if_false, Bool.false_eq_true, Bool.not_true, Bool.not_false, e_3, h_18, hE])), (hkmm.mono (by omega) (by omega)), (by first | omega | (simp only [List.length_append, List.length_cons, List.length_nil, List.length_take, List.length_drop]; omega)), rfl, rfl⟩

theorem P_kids (x : MA) (m : MS) {S T : Nat} (hk : m.ok S T) (hS : S ≤ 49000000) (hT : T ≤ 49000000) (parent : Int) (hparent : -9223372036854775808 ≤ parent ∧ parent ≤ 9223372036854775807) :
    Ct Tryz.prog 75 [mv x m, .int .i64 parent] ([]) (fun w => seesM w x m) (fun v A' => ∃ x' m' r0a r0c r0, MS.kids m parent = (m', r0) ∧ m'.ok (S) (T + S + 1) ∧ r0.length ≤ S ∧ v = .tuple #[mv x' m', .slice r0a r0.length r0c] ∧ A' = mr x' m' ++ [rI r0a r0c r0]) := by
  refine Ct.intro Tryz.func75 rfl Tryz.ntmps75 (Nat.le_of_ble_eq_true rfl) fun w0 hpre => ?_
  have hs_x_a0 : Sees w0 _ _ _ _ := hpre.1
  have hs_x_a1 : Sees w0 _ _ _ _ := hpre.2.1
  have hs_x_a2 : Sees w0 _ _ _ _ := hpre.2.2
  refine JC.seq ?_
  refine JC.region ?_
  refine JL.op rfl (JO.box (cs := [.slice x.a0 m.s.length x.c0, .slice x.a1 m.r.length x.c1, .slice x.a2 m.w.length x.c2]) rfl rfl) ?_
  rintro _ _ ⟨b_1, rfl, rfl⟩
  refine JL.op rfl (JO.alloc (z := .agg #[.slice none 0 0, .slice none 0 0, .slice none 0 0]) (cs := [.slice none 0 0, .slice none 0 0, .slice none 0 0]) Tryz.zeroValue32 rfl) ?_
  rintro _ _ ⟨b_2, rfl, rfl⟩
  refine JL.pure rfl (PO.assign (v := .slice none 0 0) rfl) ?_
  refine JL.nil ?_
  refine JQ.seq ?_
  refine JC.seq ?_
  refine JC.region ?_
  refine JL.ld rfl (LO.loadK 1 (vs := [.slice x.a0 m.s.length x.c0, .slice x.a1 m.r.length x.c1, .slice x.a2 m.w.length x.c2]) rfl rfl Tryz.isAgg32 Tryz.sizeOf32 rfl rfl) ?_
  refine JL.op rfl (JO.call [] Tryz.call127 rfl (N_clone x m hk (by omega) (by omega)) rfl (fun w hw => ⟨hw.seeOut_ hs_x_a0 (fun _ _ => List.not_mem_nil), hw.seeOut_ hs_x_a1 (fun _ _ => List.not_mem_nil), hw.seeOut_ hs_x_a2 (fun _ _ => List.not_mem_nil)⟩)) ?_
  rintro _ _ ⟨_, ⟨x_5, m_6, rfl, k_4, rfl, rfl⟩, rfl⟩
  refine JL.op rfl (JO.store 4 (vs := [.slice x_5.a0 m.s.length x_5.c0, .slice x_5.a1 m.r.length x_5.c1, .slice x_5.a2 m.w.length x_5.c2]) (cs' := [.slice x_5.a0 m.s.length x_5.c0, .slice x_5.a1 m.r.length x_5.c1, .slice x_5.a2 m.w.length x_5.c2]) rfl rfl rfl rfl Tryz.sizeOf32 rfl rfl (Nat.le_of_ble_eq_true rfl) rfl) ?_
  rintro _ _ rfl
  refine JL.nil ?_
  refine JQ.seq ?_
  refine JC.seq ?_
  refine JC.region ?_
  refine JL.pure rfl (PO.move (v := .int .i64 parent) rfl) ?_
  refine JL.op rfl (JO.call [4, 0, 0, 0] Tryz.call184 rfl (N_kids b_1 x_5 m k_4 (by omega) (by omega) parent (by omega)) rfl (fun _ _ => trivial)) ?_
  rintro _ _ ⟨_, ⟨x_9, m_10, l_11a, l_11c, l_11, e_7, k_8, f_12, rfl, rfl⟩, rfl⟩
  refine JL.pure rfl (PO.assign (v := .slice l_11a l_11.length l_11c) rfl) ?_
  refine JL.nil ?_
  refine JQ.seq ?_
  refine JC.seq ?_
  refine JC.region ?_
  refine JL.ld rfl (LO.loadK 0 (vs := [.slice x_9.a0 m_10.s.length x_9.c0, .slice x_9.a1 m_10.r.length x_9.c1, .slice x_9.a2 m_10.w.length x_9.c2]) rfl rfl Tryz.isAgg32 Tryz.sizeOf32 rfl rfl) ?_
  refine JL.pure rfl (PO.move (v := .slice l_11a l_11.length l_11c) rfl) ?_
  refine JL.op rfl (JO.store 5 (vs := [.slice x_9.a0 m_10.s.length x_9.c0, .slice x_9.a1 m_10.r.length x_9.c1, .slice x_9.a2 m_10.w.length x_9.c2]) (cs' := [.slice x_9.a0 m_10.s.length x_9.c0, .slice x_9.a1 m_10.r.length x_9.c1, .slice x_9.a2 m_10.w.length x_9.c2]) rfl rfl rfl rfl Tryz.sizeOf32 rfl rfl (Nat.le_of_ble_eq_true rfl) rfl) ?_
  rintro _ _ rfl
  refine JL.pure rfl (PO.assign (v := .slice l_11a l_11.length l_11c) rfl) ?_
  refine JL.nil ?_
  refine JQ.seq ?_
  refine JC.ret ?_
  refine JQ.perm (pick_perm [1, 1, 1, 1] (A := [rC x_9.a0 x_9.c0 m_10.s, rS x_9.a1 x_9.c1 m_10.r, rS x_9.a2 x_9.c2 m_10.w, rI l_11a l_11c l_11]) (F := [mb b_1 x_9 m_10, mb b_2 x_9 m_10]) rfl).symm ?_
  refine Done.two (.inl rfl) rfl (RV.cell1 (LO.loadK 5 (vs := [.slice x_9.a0 m_10.s.length x_9.c0, .slice x_9.a1 m_10.r.length x_9.c1, .slice x_9.a2 m_10.w.length x_9.c2]) rfl rfl Tryz.isAgg32 Tryz.sizeOf32 rfl rfl) ⟨_, rfl⟩) (RV.tmp (v := .slice l_11a l_11.length l_11c) rfl) (List.sublist_append_left [rC x_9.a0 x_9.c0 m_10.s, rS x_9.a1 x_9.c1 m_10.r, rS x_9.a2 x_9.c2 m_10.w, rI l_11a l_11c l_11] [mb b_1 x_9 m_10, mb b_2 x_9 m_10]) ?_
  exact ⟨x_9, m_10, l_11a, l_11c, l_11, (by simp only [if_true, e_7, if_true, if_false, Bool.false_eq_true, Bool.not_true, Bool.not_false]; (repeat (first | rw [if_pos (by omega)] | rw [if_neg (by omega)])); all_goals (first | rfl | simp only [if_true, if_false, Bool.false_eq_true, Bool.not_true, Bool.not_false, e_7])), (k_8.mono (by omega) (by omega)), (by first | omega | (simp only [List.length_append, List.length_cons, List.length_nil, List.length_take, List.length_drop]; omega)), rfl, rfl⟩

theorem Q_kids (x : MA) (m : MS) {S T : Nat} (hk : m.ok S T) (hS : S ≤ 49000000) (hT : T ≤ 49000000) (parent : Int) (hparent : -9223372036854775808 ≤ parent ∧ parent ≤ 9223372036854775807) :
    Ct Tryz.prog 76 [mv x m, .int .i64 parent] ([]) (fun w => seesM w x m) (fun v A' => ∃ x' m' r0a r0c r0, MS.kids m parent = (m', r0) ∧ m'.ok (S) (T + S + 1) ∧ r0.length ≤ S ∧ v = .tuple #[mv x' m', .slice r0a r0.length r0c] ∧ A' = mr x' m' ++ [rI r0a r0c r0]) := by
  refine Ct.intro Tryz.func76 rfl Tryz.ntmps76 (Nat.le_of_ble_eq_true rfl) fun w0 hpre => ?_
  have hs_x_a0 : Sees w0 _ _ _ _ := hpre.1
  have hs_x_a1 : Sees w0 _ _ _ _ := hpre.2.1
  have hs_x_a2 : Sees w0 _ _ _ _ := hpre.2.2
  refine JC.seq ?_
  refine JC.region ?_
  refine JL.op rfl (JO.box (cs := [.slice x.a0 m.s.length x.c0, .slice x.a1 m.r.length x.c1, .slice x.a2 m.w.length x.c2]) rfl rfl) ?_
  rintro _ _ ⟨b_1, rfl, rfl⟩
  refine JL.op rfl (JO.alloc (z := .agg #[.slice none 0 0, .slice none 0 0, .slice none 0 0]) (cs := [.slice none 0 0, .slice none 0 0, .slice none 0 0]) Tryz.zeroValue32 rfl) ?_
  rintro _ _ ⟨b_2, rfl, rfl⟩
  refine JL.pure rfl (PO.assign (v := .slice none 0 0) rfl) ?_
  refine JL.nil ?_
  refine JQ.seq ?_
  refine JC.seq ?_
  refine JC.region ?_
  refine JL.ld rfl (LO.loadK 1 (vs := [.slice x.a0 m.s.length x.c0, .slice x.a1 m.r.length x.c1, .slice x.a2 m.w.length x.c2]) rfl rfl Tryz.isAgg32 Tryz.sizeOf32 rfl rfl) ?_
  refine JL.op rfl (JO.call [] Tryz.call124 rfl (N_copy x m hk (by omega) (by omega)) rfl (fun w hw => ⟨hw.seeOut_ hs_x_a0 (fun _ _ => List.not_mem_nil), hw.seeOut_ hs_x_a1 (fun _ _ => List.not_mem_nil), hw.seeOut_ hs_x_a2 (fun _ _ => List.not_mem_nil)⟩)) ?_
  rintro _ _ ⟨_, ⟨x_5, m_6, rfl, k_4, rfl, rfl⟩, rfl⟩
  refine JL.pure rfl (PO.move (v := .int .i64 parent) rfl) ?_
  refine JL.op rfl (JO.call [0, 0, 0] Tryz.call185 rfl (M_kids x_5 m k_4 (by omega) (by omega) parent (by omega)) rfl (fun _ _ => trivial)) ?_
  rintro _ _ ⟨_, ⟨x_9, m_10, l_11a, l_11c, l_11, e_7, k_8, f_12, rfl, rfl⟩, rfl⟩
  refine JL.pure rfl (PO.extract (v := mv x_9 m_10) rfl rfl) ?_
  refine JL.pure rfl (PO.extract (v := .slice l_11a l_11.length l_11c) rfl rfl) ?_
  refine JL.op rfl (JO.store 4 (vs := [.slice x_9.a0 m_10.s.length x_9.c0, .slice x_9.a1 m_10.r.length x_9.c1, .slice x_9.a2 m_10.w.length x_9.c2]) (cs' := [.slice x_9.a0 m_10.s.length x_9.c0, .slice x_9.a1 m_10.r.length x_9.c1, .slice x_9.a2 m_10.w.length x_9.c2]) rfl rfl rfl rfl Tryz.sizeOf32 rfl rfl (Nat.le_of_ble_eq_true rfl) rfl) ?_
  rintro _ _ rfl
  refine JL.pure rfl (PO.assign (v := .slice l_11a l_11.length l_11c) rfl) ?_
  refine JL.nil ?_
  refine JQ.seq ?_
  refine JC.ret ?_
  refine Done.two (.inl rfl) rfl (RV.cell1 (LO.loadK 4 (vs := [.slice x_9.a0 m_10.s.length x_9.c0, .slice x_9.a1 m_10.r.length x_9.c1, .slice x_9.a2 m_10.w.length x_9.c2]) rfl rfl Tryz.isAgg32 Tryz.sizeOf32 rfl rfl) ⟨_, rfl⟩) (RV.tmp (v := .slice l_11a l_11.length l_11c) rfl) (List.sublist_append_left [rC x_9.a0 x_9.c0 m_10.s, rS x_9.a1 x_9.c1 m_10.r, rS x_9.a2 x_9.c2 m_10.w, rI l_11a l_11c l_11] [mb b_2 x_9 m_10, mb b_1 x m]) ?_
  exact ⟨x_9, m_10, l_11a, l_11c, l_11, (by simp only [if_true, e_7, if_true, if_false, Bool.false_eq_true, Bool.not_true, Bool.not_false]; (repeat (first | rw [if_pos (by omega)] | rw [if_neg (by omega)])); all_goals (first | rfl | simp only [if_true, if_false, Bool.false_eq_true, Bool.not_true, Bool.not_false, e_7])), (k_8.mono (by omega) (by omega)), (by first | omega | (simp only [List.length_append, List.length_cons, List.length_nil, List.length_take, List.length_drop]; omega)), rfl, rfl⟩

end Go.Proofs.YtenfajgpdhgknaaGreatDoor
