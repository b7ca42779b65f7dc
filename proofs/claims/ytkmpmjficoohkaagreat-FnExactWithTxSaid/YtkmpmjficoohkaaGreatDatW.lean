/-
  Texts of the walk, joined: what each one proves stands at its theorems.
-/
import Derived.Test.YtkmpmjficoohkaaGreatS40DEEP
import Derived.Test.YtkmpmjficoohkaaGreatDatT
import Derived.Test.YtkmpmjficoohkaaGreatDatX
set_option linter.unusedSimpArgs false
set_option linter.unusedVariables false
set_option linter.unnecessarySimpa false
namespace Go.Proofs.YtkmpmjficoohkaaGreat
open Go Go.RowKit
attribute [local irreducible] JL JC JQ JO LO PO JA JX Ct

theorem Z_cloneK (a : Option Addr) (c : Nat) (s : List CL) (hn : s.length ≤ 1000000000000) :
    Ct Tryz.prog 116 [.slice a s.length c] [] (fun w_ => Sees w_ (.slice a s.length c) 6 s.length (s.flatMap encK)) (fun v A' => ∃ a' c', v = .slice a' s.length c' ∧ A' = [.row (.slice a' s.length c') 152 6 s.length (s.flatMap encK)]) := by
  refine Ct.intro Tryz.func116 rfl Tryz.ntmps116 (Nat.le_of_ble_eq_true rfl) fun w0 hpre => ?_
  have hs_a : Sees w0 _ _ _ _ := hpre
  refine JC.seq ?_
  refine JC.region ?_
  refine JL.pure rfl (PO.assign (v := .slice none 0 0) rfl) ?_
  refine JL.nil ?_
  refine JQ.seq ?_
  refine JC.seq ?_
  refine JC.seq ?_
  refine JC.region ?_
  refine JL.pure rfl (PO.move (v := .slice a s.length c) rfl) ?_
  refine JL.pure rfl (PO.eqNil Tryz.underlying57 rfl rfl) ?_
  refine JL.nil ?_
  refine JQ.seq ?_
  rcases Bool.eq_false_or_eq_true (a.isNone) with h_1 | h_1
  · skip
    refine JC.condT (congrArg Value.bool h_1) ?_
    refine JC.seq ?_
    refine JC.region ?_
    refine JL.pure rfl (PO.assign (v := .slice none 0 0) rfl) ?_
    refine JL.nil ?_
    refine JQ.seq ?_
    refine JC.ret ?_
    refine JQ.thenRet ?_
    refine JQ.nilrow 152 6 ?_
    refine Done.one (.inl rfl) rfl (RV.tmp (v := .slice none 0 0) rfl) (List.Sublist.refl _) ?_
    have ha : a = none := by simpa using h_1
    have hz : s.length = 0 := sees_none (ha ▸ hpre)
    have hs0 : s = [] := List.length_eq_zero_iff.1 hz
    subst hs0
    exact ⟨none, 0, rfl, rfl⟩
  · skip
    refine JC.condF (congrArg Value.bool h_1) ?_
    refine JC.skip ?_
    refine JQ.seq ?_
    refine JC.seq ?_
    refine JC.region ?_
    refine JL.op rfl (JO.buildSlice (ps := []) (cur := #[]) Tryz.underlying57 Tryz.sizeOf152 Tryz.zeroValue152 rfl (by kernel_rfl) (by decide) (by decide)) ?_
    rintro _ _ ⟨a_2, rfl, rfl⟩
    refine JL.pure rfl (PO.move (v := .slice a s.length c) rfl) ?_
    refine JL.op rfl (JO.append' 0 (q := s.length) (news := s.flatMap encK) (n' := s.length) (cs' := s.flatMap encK) rfl Tryz.underlying57 Tryz.underlying57 Tryz.typeInfo152 rfl (by' := 72) rfl rfl rfl rfl rfl (fun w hw => Src.sees (hw.seeOut_ hs_a (fun _ _ => List.not_mem_nil)) (oneK _)) (by (try simp only [List.length_append, List.length_cons, List.length_nil, List.length_take, List.length_drop]); omega) (by (try simp only [List.length_append, List.length_cons, List.length_nil, List.length_take, List.length_drop]); omega) (by (try simp only [List.length_take, List.length_drop]); first | rfl | omega) rfl) ?_
    rintro _ _ ⟨a_3, c_4, rfl, rfl⟩
    refine JL.pure rfl (PO.assign (v := .slice a_3 s.length c_4) rfl) ?_
    refine JL.nil ?_
    refine JQ.seq ?_
    refine JC.ret ?_
    refine Done.one (.inl rfl) rfl (RV.tmp (v := .slice a_3 s.length c_4) rfl) (List.Sublist.refl _) ?_
    exact ⟨_, _, rfl, rfl⟩

theorem Z_cloneA (a : Option Addr) (c : Nat) (s : List AN) (hn : s.length ≤ 1000000000000) :
    Ct Tryz.prog 117 [.slice a s.length c] [] (fun w_ => Sees w_ (.slice a s.length c) 3 s.length (s.flatMap encA)) (fun v A' => ∃ a' c', v = .slice a' s.length c' ∧ A' = [.row (.slice a' s.length c') 154 3 s.length (s.flatMap encA)]) := by
  refine Ct.intro Tryz.func117 rfl Tryz.ntmps117 (Nat.le_of_ble_eq_true rfl) fun w0 hpre => ?_
  have hs_a : Sees w0 _ _ _ _ := hpre
  refine JC.seq ?_
  refine JC.region ?_
  refine JL.pure rfl (PO.assign (v := .slice none 0 0) rfl) ?_
  refine JL.nil ?_
  refine JQ.seq ?_
  refine JC.seq ?_
  refine JC.seq ?_
  refine JC.region ?_
  refine JL.pure rfl (PO.move (v := .slice a s.length c) rfl) ?_
  refine JL.pure rfl (PO.eqNil Tryz.underlying58 rfl rfl) ?_
  refine JL.nil ?_
  refine JQ.seq ?_
  rcases Bool.eq_false_or_eq_true (a.isNone) with h_1 | h_1
  · skip
    refine JC.condT (congrArg Value.bool h_1) ?_
    refine JC.seq ?_
    refine JC.region ?_
    refine JL.pure rfl (PO.assign (v := .slice none 0 0) rfl) ?_
    refine JL.nil ?_
    refine JQ.seq ?_
    refine JC.ret ?_
    refine JQ.thenRet ?_
    refine JQ.nilrow 154 3 ?_
    refine Done.one (.inl rfl) rfl (RV.tmp (v := .slice none 0 0) rfl) (List.Sublist.refl _) ?_
    have ha : a = none := by simpa using h_1
    have hz : s.length = 0 := sees_none (ha ▸ hpre)
    have hs0 : s = [] := List.length_eq_zero_iff.1 hz
    subst hs0
    exact ⟨none, 0, rfl, rfl⟩
  · skip
    refine JC.condF (congrArg Value.bool h_1) ?_
    refine JC.skip ?_
    refine JQ.seq ?_
    refine JC.seq ?_
    refine JC.region ?_
    refine JL.op rfl (JO.buildSlice (ps := []) (cur := #[]) Tryz.underlying58 Tryz.sizeOf154 Tryz.zeroValue154 rfl (by kernel_rfl) (by decide) (by decide)) ?_
    rintro _ _ ⟨a_2, rfl, rfl⟩
    refine JL.pure rfl (PO.move (v := .slice a s.length c) rfl) ?_
    refine JL.op rfl (JO.append' 0 (q := s.length) (news := s.flatMap encA) (n' := s.length) (cs' := s.flatMap encA) rfl Tryz.underlying58 Tryz.underlying58 Tryz.typeInfo154 rfl (by' := 32) rfl rfl rfl rfl rfl (fun w hw => Src.sees (hw.seeOut_ hs_a (fun _ _ => List.not_mem_nil)) (oneA _)) (by (try simp only [List.length_append, List.length_cons, List.length_nil, List.length_take, List.length_drop]); omega) (by (try simp only [List.length_append, List.length_cons, List.length_nil, List.length_take, List.length_drop]); omega) (by (try simp only [List.length_take, List.length_drop]); first | rfl | omega) rfl) ?_
    rintro _ _ ⟨a_3, c_4, rfl, rfl⟩
    refine JL.pure rfl (PO.assign (v := .slice a_3 s.length c_4) rfl) ?_
    refine JL.nil ?_
    refine JQ.seq ?_
    refine JC.ret ?_
    refine Done.one (.inl rfl) rfl (RV.tmp (v := .slice a_3 s.length c_4) rfl) (List.Sublist.refl _) ?_
    exact ⟨_, _, rfl, rfl⟩

theorem Z_cloneP (a : Option Addr) (c : Nat) (s : List SP) (hn : s.length ≤ 1000000000000) :
    Ct Tryz.prog 142 [.slice a s.length c] [] (fun w_ => Sees w_ (.slice a s.length c) 7 s.length (s.flatMap encP)) (fun v A' => ∃ a' c', v = .slice a' s.length c' ∧ A' = [.row (.slice a' s.length c') 179 7 s.length (s.flatMap encP)]) := by
  refine Ct.intro Tryz.func142 rfl Tryz.ntmps142 (Nat.le_of_ble_eq_true rfl) fun w0 hpre => ?_
  have hs_a : Sees w0 _ _ _ _ := hpre
  refine JC.seq ?_
  refine JC.region ?_
  refine JL.pure rfl (PO.assign (v := .slice none 0 0) rfl) ?_
  refine JL.nil ?_
  refine JQ.seq ?_
  refine JC.seq ?_
  refine JC.seq ?_
  refine JC.region ?_
  refine JL.pure rfl (PO.move (v := .slice a s.length c) rfl) ?_
  refine JL.pure rfl (PO.eqNil Tryz.underlying127 rfl rfl) ?_
  refine JL.nil ?_
  refine JQ.seq ?_
  rcases Bool.eq_false_or_eq_true (a.isNone) with h_1 | h_1
  · skip
    refine JC.condT (congrArg Value.bool h_1) ?_
    refine JC.seq ?_
    refine JC.region ?_
    refine JL.pure rfl (PO.assign (v := .slice none 0 0) rfl) ?_
    refine JL.nil ?_
    refine JQ.seq ?_
    refine JC.ret ?_
    refine JQ.thenRet ?_
    refine JQ.nilrow 179 7 ?_
    refine Done.one (.inl rfl) rfl (RV.tmp (v := .slice none 0 0) rfl) (List.Sublist.refl _) ?_
    have ha : a = none := by simpa using h_1
    have hz : s.length = 0 := sees_none (ha ▸ hpre)
    have hs0 : s = [] := List.length_eq_zero_iff.1 hz
    subst hs0
    exact ⟨none, 0, rfl, rfl⟩
  · skip
    refine JC.condF (congrArg Value.bool h_1) ?_
    refine JC.skip ?_
    refine JQ.seq ?_
    refine JC.seq ?_
    refine JC.region ?_
    refine JL.op rfl (JO.buildSlice (ps := []) (cur := #[]) Tryz.underlying127 Tryz.sizeOf179 Tryz.zeroValue179 rfl (by kernel_rfl) (by decide) (by decide)) ?_
    rintro _ _ ⟨a_2, rfl, rfl⟩
    refine JL.pure rfl (PO.move (v := .slice a s.length c) rfl) ?_
    refine JL.op rfl (JO.append' 0 (q := s.length) (news := s.flatMap encP) (n' := s.length) (cs' := s.flatMap encP) rfl Tryz.underlying127 Tryz.underlying127 Tryz.typeInfo179 rfl (by' := 80) rfl rfl rfl rfl rfl (fun w hw => Src.sees (hw.seeOut_ hs_a (fun _ _ => List.not_mem_nil)) (oneP _)) (by (try simp only [List.length_append, List.length_cons, List.length_nil, List.length_take, List.length_drop]); omega) (by (try simp only [List.length_append, List.length_cons, List.length_nil, List.length_take, List.length_drop]); omega) (by (try simp only [List.length_take, List.length_drop]); first | rfl | omega) rfl) ?_
    rintro _ _ ⟨a_3, c_4, rfl, rfl⟩
    refine JL.pure rfl (PO.assign (v := .slice a_3 s.length c_4) rfl) ?_
    refine JL.nil ?_
    refine JQ.seq ?_
    refine JC.ret ?_
    refine Done.one (.inl rfl) rfl (RV.tmp (v := .slice a_3 s.length c_4) rfl) (List.Sublist.refl _) ?_
    exact ⟨_, _, rfl, rfl⟩

theorem Z_cloneI (a : Option Addr) (c : Nat) (s : List Int) (hn : s.length ≤ 1000000000000) :
    Ct Tryz.prog 118 [.slice a s.length c] [] (fun w_ => Sees w_ (.slice a s.length c) 1 s.length (s.map (Value.int .i64))) (fun v A' => ∃ a' c', v = .slice a' s.length c' ∧ A' = [.row (.slice a' s.length c') 3 1 s.length (s.map (Value.int .i64))]) := by
  refine Ct.intro Tryz.func118 rfl Tryz.ntmps118 (Nat.le_of_ble_eq_true rfl) fun w0 hpre => ?_
  have hs_a : Sees w0 _ _ _ _ := hpre
  refine JC.seq ?_
  refine JC.region ?_
  refine JL.pure rfl (PO.assign (v := .slice none 0 0) rfl) ?_
  refine JL.nil ?_
  refine JQ.seq ?_
  refine JC.seq ?_
  refine JC.seq ?_
  refine JC.region ?_
  refine JL.pure rfl (PO.move (v := .slice a s.length c) rfl) ?_
  refine JL.pure rfl (PO.eqNil Tryz.underlying52 rfl rfl) ?_
  refine JL.nil ?_
  refine JQ.seq ?_
  rcases Bool.eq_false_or_eq_true (a.isNone) with h_1 | h_1
  · skip
    refine JC.condT (congrArg Value.bool h_1) ?_
    refine JC.seq ?_
    refine JC.region ?_
    refine JL.pure rfl (PO.assign (v := .slice none 0 0) rfl) ?_
    refine JL.nil ?_
    refine JQ.seq ?_
    refine JC.ret ?_
    refine JQ.thenRet ?_
    refine JQ.nilrow 3 1 ?_
    refine Done.one (.inl rfl) rfl (RV.tmp (v := .slice none 0 0) rfl) (List.Sublist.refl _) ?_
    have ha : a = none := by simpa using h_1
    have hz : s.length = 0 := sees_none (ha ▸ hpre)
    have hs0 : s = [] := List.length_eq_zero_iff.1 hz
    subst hs0
    exact ⟨none, 0, rfl, rfl⟩
  · skip
    refine JC.condF (congrArg Value.bool h_1) ?_
    refine JC.skip ?_
    refine JQ.seq ?_
    refine JC.seq ?_
    refine JC.region ?_
    refine JL.op rfl (JO.buildSlice (ps := []) (cur := #[]) Tryz.underlying52 Tryz.sizeOf3 Tryz.zeroValue3 rfl (by kernel_rfl) (by decide) (by decide)) ?_
    rintro _ _ ⟨a_2, rfl, rfl⟩
    refine JL.pure rfl (PO.move (v := .slice a s.length c) rfl) ?_
    refine JL.op rfl (JO.append' 0 (q := s.length) (news := s.map (Value.int .i64)) (n' := s.length) (cs' := s.map (Value.int .i64)) rfl Tryz.underlying52 Tryz.underlying52 Tryz.typeInfo3 rfl (by' := 8) rfl rfl rfl rfl rfl (fun w hw => Src.sees (hw.seeOut_ hs_a (fun _ _ => List.not_mem_nil)) (oneI _)) (by (try simp only [List.length_append, List.length_cons, List.length_nil, List.length_take, List.length_drop]); omega) (by (try simp only [List.length_append, List.length_cons, List.length_nil, List.length_take, List.length_drop]); omega) (by (try simp only [List.length_take, List.length_drop]); first | rfl | omega) rfl) ?_
    rintro _ _ ⟨a_3, c_4, rfl, rfl⟩
    refine JL.pure rfl (PO.assign (v := .slice a_3 s.length c_4) rfl) ?_
    refine JL.nil ?_
    refine JQ.seq ?_
    refine JC.ret ?_
    refine Done.one (.inl rfl) rfl (RV.tmp (v := .slice a_3 s.length c_4) rfl) (List.Sublist.refl _) ?_
    exact ⟨_, _, rfl, rfl⟩

theorem Z_cloneO (a : Option Addr) (c : Nat) (s : List OX) (hn : s.length ≤ 1000000000000) :
    Ct Tryz.prog 140 [.slice a s.length c] [] (fun w_ => Sees w_ (.slice a s.length c) 3 s.length (s.flatMap encO)) (fun v A' => ∃ a' c', v = .slice a' s.length c' ∧ A' = [.row (.slice a' s.length c') 173 3 s.length (s.flatMap encO)]) := by
  refine Ct.intro Tryz.func140 rfl Tryz.ntmps140 (Nat.le_of_ble_eq_true rfl) fun w0 hpre => ?_
  have hs_a : Sees w0 _ _ _ _ := hpre
  refine JC.seq ?_
  refine JC.region ?_
  refine JL.pure rfl (PO.assign (v := .slice none 0 0) rfl) ?_
  refine JL.nil ?_
  refine JQ.seq ?_
  refine JC.seq ?_
  refine JC.seq ?_
  refine JC.region ?_
  refine JL.pure rfl (PO.move (v := .slice a s.length c) rfl) ?_
  refine JL.pure rfl (PO.eqNil Tryz.underlying36 rfl rfl) ?_
  refine JL.nil ?_
  refine JQ.seq ?_
  rcases Bool.eq_false_or_eq_true (a.isNone) with h_1 | h_1
  · skip
    refine JC.condT (congrArg Value.bool h_1) ?_
    refine JC.seq ?_
    refine JC.region ?_
    refine JL.pure rfl (PO.assign (v := .slice none 0 0) rfl) ?_
    refine JL.nil ?_
    refine JQ.seq ?_
    refine JC.ret ?_
    refine JQ.thenRet ?_
    refine JQ.nilrow 173 3 ?_
    refine Done.one (.inl rfl) rfl (RV.tmp (v := .slice none 0 0) rfl) (List.Sublist.refl _) ?_
    have ha : a = none := by simpa using h_1
    have hz : s.length = 0 := sees_none (ha ▸ hpre)
    have hs0 : s = [] := List.length_eq_zero_iff.1 hz
    subst hs0
    exact ⟨none, 0, rfl, rfl⟩
  · skip
    refine JC.condF (congrArg Value.bool h_1) ?_
    refine JC.skip ?_
    refine JQ.seq ?_
    refine JC.seq ?_
    refine JC.region ?_
    refine JL.op rfl (JO.buildSlice (ps := []) (cur := #[]) Tryz.underlying36 Tryz.sizeOf173 Tryz.zeroValue173 rfl (by kernel_rfl) (by decide) (by decide)) ?_
    rintro _ _ ⟨a_2, rfl, rfl⟩
    refine JL.pure rfl (PO.move (v := .slice a s.length c) rfl) ?_
    refine JL.op rfl (JO.append' 0 (q := s.length) (news := s.flatMap encO) (n' := s.length) (cs' := s.flatMap encO) rfl Tryz.underlying36 Tryz.underlying36 Tryz.typeInfo173 rfl (by' := 40) rfl rfl rfl rfl rfl (fun w hw => Src.sees (hw.seeOut_ hs_a (fun _ _ => List.not_mem_nil)) (oneO _)) (by (try simp only [List.length_append, List.length_cons, List.length_nil, List.length_take, List.length_drop]); omega) (by (try simp only [List.length_append, List.length_cons, List.length_nil, List.length_take, List.length_drop]); omega) (by (try simp only [List.length_take, List.length_drop]); first | rfl | omega) rfl) ?_
    rintro _ _ ⟨a_3, c_4, rfl, rfl⟩
    refine JL.pure rfl (PO.assign (v := .slice a_3 s.length c_4) rfl) ?_
    refine JL.nil ?_
    refine JQ.seq ?_
    refine JC.ret ?_
    refine Done.one (.inl rfl) rfl (RV.tmp (v := .slice a_3 s.length c_4) rfl) (List.Sublist.refl _) ?_
    exact ⟨_, _, rfl, rfl⟩

theorem Z_cloneE (a : Option Addr) (c : Nat) (s : List EX) (hn : s.length ≤ 1000000000000) :
    Ct Tryz.prog 141 [.slice a s.length c] [] (fun w_ => Sees w_ (.slice a s.length c) 8 s.length (s.flatMap encE)) (fun v A' => ∃ a' c', v = .slice a' s.length c' ∧ A' = [.row (.slice a' s.length c') 129 8 s.length (s.flatMap encE)]) := by
  refine Ct.intro Tryz.func141 rfl Tryz.ntmps141 (Nat.le_of_ble_eq_true rfl) fun w0 hpre => ?_
  have hs_a : Sees w0 _ _ _ _ := hpre
  refine JC.seq ?_
  refine JC.region ?_
  refine JL.pure rfl (PO.assign (v := .slice none 0 0) rfl) ?_
  refine JL.nil ?_
  refine JQ.seq ?_
  refine JC.seq ?_
  refine JC.seq ?_
  refine JC.region ?_
  refine JL.pure rfl (PO.move (v := .slice a s.length c) rfl) ?_
  refine JL.pure rfl (PO.eqNil Tryz.underlying40 rfl rfl) ?_
  refine JL.nil ?_
  refine JQ.seq ?_
  rcases Bool.eq_false_or_eq_true (a.isNone) with h_1 | h_1
  · skip
    refine JC.condT (congrArg Value.bool h_1) ?_
    refine JC.seq ?_
    refine JC.region ?_
    refine JL.pure rfl (PO.assign (v := .slice none 0 0) rfl) ?_
    refine JL.nil ?_
    refine JQ.seq ?_
    refine JC.ret ?_
    refine JQ.thenRet ?_
    refine JQ.nilrow 129 8 ?_
    refine Done.one (.inl rfl) rfl (RV.tmp (v := .slice none 0 0) rfl) (List.Sublist.refl _) ?_
    have ha : a = none := by simpa using h_1
    have hz : s.length = 0 := sees_none (ha ▸ hpre)
    have hs0 : s = [] := List.length_eq_zero_iff.1 hz
    subst hs0
    exact ⟨none, 0, rfl, rfl⟩
  · skip
    refine JC.condF (congrArg Value.bool h_1) ?_
    refine JC.skip ?_
    refine JQ.seq ?_
    refine JC.seq ?_
    refine JC.region ?_
    refine JL.op rfl (JO.buildSlice (ps := []) (cur := #[]) Tryz.underlying40 Tryz.sizeOf129 Tryz.zeroValue129 rfl (by kernel_rfl) (by decide) (by decide)) ?_
    rintro _ _ ⟨a_2, rfl, rfl⟩
    refine JL.pure rfl (PO.move (v := .slice a s.length c) rfl) ?_
    refine JL.op rfl (JO.append' 0 (q := s.length) (news := s.flatMap encE) (n' := s.length) (cs' := s.flatMap encE) rfl Tryz.underlying40 Tryz.underlying40 Tryz.typeInfo129 rfl (by' := 96) rfl rfl rfl rfl rfl (fun w hw => Src.sees (hw.seeOut_ hs_a (fun _ _ => List.not_mem_nil)) (oneE _)) (by (try simp only [List.length_append, List.length_cons, List.length_nil, List.length_take, List.length_drop]); omega) (by (try simp only [List.length_append, List.length_cons, List.length_nil, List.length_take, List.length_drop]); omega) (by (try simp only [List.length_take, List.length_drop]); first | rfl | omega) rfl) ?_
    rintro _ _ ⟨a_3, c_4, rfl, rfl⟩
    refine JL.pure rfl (PO.assign (v := .slice a_3 s.length c_4) rfl) ?_
    refine JL.nil ?_
    refine JQ.seq ?_
    refine JC.ret ?_
    refine Done.one (.inl rfl) rfl (RV.tmp (v := .slice a_3 s.length c_4) rfl) (List.Sublist.refl _) ?_
    exact ⟨_, _, rfl, rfl⟩

theorem Z_cloneTouch (a1 a2 : Option Addr) (ac1 ac2 : Nat) (r w : List Str) (hr : r.length ≤ 1000000000) (hw_ : w.length ≤ 1000000000) :
    Ct Tryz.prog 119 [.agg #[.slice a1 r.length ac1, .slice a2 w.length ac2]] [] (fun w_ => Sees w_ (.slice a1 r.length ac1) 1 r.length (r.map str) ∧ Sees w_ (.slice a2 w.length ac2) 1 w.length (w.map str)) (fun v A' => ∃ b1 d1 b2 d2, v = .agg #[.slice b1 r.length d1, .slice b2 w.length d2] ∧ A' = [.row (.slice b1 r.length d1) 9 1 r.length (r.map str), .row (.slice b2 w.length d2) 9 1 w.length (w.map str)]) := by
  refine Ct.intro Tryz.func119 rfl Tryz.ntmps119 (Nat.le_of_ble_eq_true rfl) fun w0 hpre => ?_
  refine JC.seq ?_
  refine JC.region ?_
  refine JL.op rfl (JO.box (cs := [.slice a1 r.length ac1, .slice a2 w.length ac2]) rfl rfl) ?_
  rintro _ _ ⟨b_1, rfl, rfl⟩
  refine JL.op rfl (JO.alloc (z := .agg #[.slice none 0 0, .slice none 0 0]) (cs := [.slice none 0 0, .slice none 0 0]) Tryz.zeroValue59 rfl) ?_
  rintro _ _ ⟨b_2, rfl, rfl⟩
  refine JL.nil ?_
  refine JQ.seq ?_
  refine JC.seq ?_
  refine JC.regionA [bk b_2 59 [.slice none 0 0, .slice none 0 0], bk b_1 59 [.slice a1 r.length ac1, .slice a2 w.length ac2]] 7 mixed (by simp) ?_
  refine JA.takeP 0 rfl (by kernel_rfl) (NP.th NP.body) (by kernel_rfl) (by kernel_rfl) rfl (PO.fieldAddr fo59_0 rfl) ?_
  refine JA.take 1 rfl (by kernel_rfl) (NP.th NP.body) (by kernel_rfl) (by kernel_rfl) (by kernel_rfl) rfl (LO.load1 1 (v := .slice a1 r.length ac1) rfl rfl Tryz.isAgg30 rfl) ?_
  refine JA.takeP 3 rfl (by kernel_rfl) (NP.th NP.body) (by kernel_rfl) (by kernel_rfl) rfl (PO.fieldAddr fo59_1 rfl) ?_
  refine JA.take 4 rfl (by kernel_rfl) (NP.th NP.body) (by kernel_rfl) (by kernel_rfl) (by kernel_rfl) rfl (LO.load1 1 (v := .slice a2 w.length ac2) rfl rfl Tryz.isAgg30 rfl) ?_
  refine JA.one (i := 2) (by kernel_rfl) ?_
  refine JX.op rfl rfl (JO.call [] Tryz.call96 rfl (C_cloneS a1 ac1 r (by omega)) rfl (fun w hw => hw.seeOut_ hpre.1 (fun _ _ => List.not_mem_nil))) ?_
  rintro _ _ ⟨_, ⟨a_9, c_10, rfl, rfl⟩, rfl⟩
  refine ⟨by simp, ?_⟩
  refine JA.one (i := 5) (by kernel_rfl) ?_
  refine JX.op rfl rfl (JO.call [] Tryz.call96 rfl (C_cloneS a2 ac2 w (by omega)) rfl (fun w hw => hw.seeOut_ hpre.2 (fun _ _ => List.not_mem_nil))) ?_
  rintro _ _ ⟨_, ⟨a_13, c_14, rfl, rfl⟩, rfl⟩
  refine ⟨by simp, ?_⟩
  refine JA.takeP 6 rfl (by kernel_rfl) (NP.th NP.body) (by kernel_rfl) (by kernel_rfl) rfl (PO.build (ps := [(0, .slice a_9 r.length c_10), (1, .slice a_13 w.length c_14)]) (cs := [.slice a_9 r.length c_10, .slice a_13 w.length c_14]) rfl (by kernel_rfl)) ?_
  refine JA.one (i := 7) (by kernel_rfl) ?_
  refine JX.last rfl rfl (by decide) (by kernel_rfl) (JO.store 2 (vs := [.slice a_9 r.length c_10, .slice a_13 w.length c_14]) (cs' := [.slice a_9 r.length c_10, .slice a_13 w.length c_14]) rfl rfl rfl rfl Tryz.sizeOf59 rfl rfl (Nat.le_of_ble_eq_true rfl) rfl) ?_
  rintro _ _ rfl
  refine JQ.seq ?_
  refine JC.ret ?_
  refine JQ.perm (pick_perm [1, 0] (A := [rS a_9 c_10 r, rS a_13 c_14 w]) (F := [bk b_2 59 [.slice a_9 r.length c_10, .slice a_13 w.length c_14], bk b_1 59 [.slice a1 r.length ac1, .slice a2 w.length ac2]]) rfl).symm ?_
  refine Done.one (.inl rfl) rfl (RV.cell1 (LO.loadK 2 (vs := [.slice a_9 r.length c_10, .slice a_13 w.length c_14]) rfl rfl Tryz.isAgg59 Tryz.sizeOf59 rfl rfl) ⟨_, rfl⟩) (List.sublist_append_left [rS a_9 c_10 r, rS a_13 c_14 w] [bk b_2 59 [.slice a_9 r.length c_10, .slice a_13 w.length c_14], bk b_1 59 [.slice a1 r.length ac1, .slice a2 w.length ac2]]) ?_
  exact ⟨_, _, _, _, rfl, rfl⟩

theorem Z_implTxclone (p : TX) (hl : p.t.lim 1000000000) :
    Ct Tryz.prog 65 [.agg #[.int .i64 p.t.id, .int .i64 p.t.age, .int .i64 p.t.proc, .int .i64 p.t.began, .slice p.x.a0 p.t.calls.length p.x.c0, .slice p.x.a1 p.t.ans.length p.x.c1, .slice p.x.a2 p.t.rd.length p.x.c2, .slice p.x.a3 p.t.wr.length p.x.c3, .slice p.x.a4 p.t.marks.length p.x.c4, .int .i64 p.t.state]] [] (fun w => SeesA w (rdsX p)) (fun v A' => ∃ y : TX, y.t = p.t ∧ v = .agg #[.int .i64 y.t.id, .int .i64 y.t.age, .int .i64 y.t.proc, .int .i64 y.t.began, .slice y.x.a0 y.t.calls.length y.x.c0, .slice y.x.a1 y.t.ans.length y.x.c1, .slice y.x.a2 y.t.rd.length y.x.c2, .slice y.x.a3 y.t.wr.length y.x.c3, .slice y.x.a4 y.t.marks.length y.x.c4, .int .i64 y.t.state] ∧ A' = [.rows (rdsX y)]) := by
  obtain ⟨hb0, hb1, hb2, hb3, hb4⟩ := hl
  refine Ct.intro Tryz.func65 rfl Tryz.ntmps65 (Nat.le_of_ble_eq_true rfl) fun w0 hpre => ?_
  obtain ⟨hs_1, hs_2, hs_3, hs_4, hs_5⟩ := seesX hpre
  refine JC.seq ?_
  refine JC.region ?_
  refine JL.op rfl (JO.box (cs := [.int .i64 p.t.id, .int .i64 p.t.age, .int .i64 p.t.proc, .int .i64 p.t.began, .slice p.x.a0 p.t.calls.length p.x.c0, .slice p.x.a1 p.t.ans.length p.x.c1, .slice p.x.a2 p.t.rd.length p.x.c2, .slice p.x.a3 p.t.wr.length p.x.c3, .slice p.x.a4 p.t.marks.length p.x.c4, .int .i64 p.t.state]) rfl rfl) ?_
  rintro _ _ ⟨b_6, rfl, rfl⟩
  refine JL.op rfl (JO.alloc (z := .agg #[.int .i64 0, .int .i64 0, .int .i64 0, .int .i64 0, .slice none 0 0, .slice none 0 0, .slice none 0 0, .slice none 0 0, .slice none 0 0, .int .i64 0]) (cs := [.int .i64 0, .int .i64 0, .int .i64 0, .int .i64 0, .slice none 0 0, .slice none 0 0, .slice none 0 0, .slice none 0 0, .slice none 0 0, .int .i64 0]) Tryz.zeroValue61 rfl) ?_
  rintro _ _ ⟨b_7, rfl, rfl⟩
  refine JL.nil ?_
  refine JQ.seq ?_
  refine JC.seq ?_
  refine JC.regionA [bk b_7 61 [.int .i64 0, .int .i64 0, .int .i64 0, .int .i64 0, .slice none 0 0, .slice none 0 0, .slice none 0 0, .slice none 0 0, .slice none 0 0, .int .i64 0], bk b_6 61 [.int .i64 p.t.id, .int .i64 p.t.age, .int .i64 p.t.proc, .int .i64 p.t.began, .slice p.x.a0 p.t.calls.length p.x.c0, .slice p.x.a1 p.t.ans.length p.x.c1, .slice p.x.a2 p.t.rd.length p.x.c2, .slice p.x.a3 p.t.wr.length p.x.c3, .slice p.x.a4 p.t.marks.length p.x.c4, .int .i64 p.t.state]] 12 mixed (by simp) ?_
  refine JA.takeP 0 rfl (by kernel_rfl) (NP.th NP.body) (by kernel_rfl) (by kernel_rfl) rfl (PO.fieldAddr fo61_4 rfl) ?_
  refine JA.take 1 rfl (by kernel_rfl) (NP.th NP.body) (by kernel_rfl) (by kernel_rfl) (by kernel_rfl) rfl (LO.load1 1 (v := .slice p.x.a0 p.t.calls.length p.x.c0) rfl rfl Tryz.isAgg57 rfl) ?_
  refine JA.takeP 3 rfl (by kernel_rfl) (NP.th NP.body) (by kernel_rfl) (by kernel_rfl) rfl (PO.fieldAddr fo61_5 rfl) ?_
  refine JA.take 4 rfl (by kernel_rfl) (NP.th NP.body) (by kernel_rfl) (by kernel_rfl) (by kernel_rfl) rfl (LO.load1 1 (v := .slice p.x.a1 p.t.ans.length p.x.c1) rfl rfl Tryz.isAgg58 rfl) ?_
  refine JA.takeP 6 rfl (by kernel_rfl) (NP.th NP.body) (by kernel_rfl) (by kernel_rfl) rfl (PO.fieldAddr fo61_7 rfl) ?_
  refine JA.take 7 rfl (by kernel_rfl) (NP.th NP.body) (by kernel_rfl) (by kernel_rfl) (by kernel_rfl) rfl (LO.load1 1 (v := .slice p.x.a4 p.t.marks.length p.x.c4) rfl rfl Tryz.isAgg52 rfl) ?_
  refine JA.takeP 9 rfl (by kernel_rfl) (NP.th NP.body) (by kernel_rfl) (by kernel_rfl) rfl (PO.fieldAddr fo61_6 rfl) ?_
  refine JA.take 10 rfl (by kernel_rfl) (NP.th NP.body) (by kernel_rfl) (by kernel_rfl) (by kernel_rfl) rfl (LO.loadK 1 (vs := [.slice p.x.a2 p.t.rd.length p.x.c2, .slice p.x.a3 p.t.wr.length p.x.c3]) rfl rfl Tryz.isAgg59 Tryz.sizeOf59 rfl rfl) ?_
  refine JA.one (i := 2) (by kernel_rfl) ?_
  refine JX.op rfl rfl (JO.call [] Tryz.call116 rfl (Z_cloneK p.x.a0 p.x.c0 p.t.calls (by omega)) rfl (fun w hw => hw.seeOut_ hs_1 (fun _ _ => List.not_mem_nil))) ?_
  rintro _ _ ⟨_, ⟨a_22, c_23, rfl, rfl⟩, rfl⟩
  refine ⟨by simp, ?_⟩
  refine JA.takeP 12 rfl (by kernel_rfl) (NP.th NP.body) (by kernel_rfl) (by kernel_rfl) rfl (PO.fieldAddr fo61_4 rfl) ?_
  refine JA.one (i := 5) (by kernel_rfl) ?_
  refine JX.op rfl rfl (JO.call [] Tryz.call117 rfl (Z_cloneA p.x.a1 p.x.c1 p.t.ans (by omega)) rfl (fun w hw => hw.seeOut_ hs_2 (fun _ _ => List.not_mem_nil))) ?_
  rintro _ _ ⟨_, ⟨a_28, c_29, rfl, rfl⟩, rfl⟩
  refine ⟨by simp, ?_⟩
  refine JA.one (i := 8) (by kernel_rfl) ?_
  refine JX.op rfl rfl (JO.call [] Tryz.call118 rfl (Z_cloneI p.x.a4 p.x.c4 p.t.marks (by omega)) rfl (fun w hw => hw.seeOut_ hs_5 (fun _ _ => List.not_mem_nil))) ?_
  rintro _ _ ⟨_, ⟨a_32, c_33, rfl, rfl⟩, rfl⟩
  refine ⟨by simp, ?_⟩
  refine JA.one (i := 11) (by kernel_rfl) ?_
  refine JX.op rfl rfl (JO.call [] Tryz.call119 rfl (Z_cloneTouch p.x.a2 p.x.a3 p.x.c2 p.x.c3 p.t.rd p.t.wr (by omega) (by omega)) rfl (fun w hw => ⟨hw.seeOut_ hs_3 (fun _ _ => List.not_mem_nil), hw.seeOut_ hs_4 (fun _ _ => List.not_mem_nil)⟩)) ?_
  rintro _ _ ⟨_, ⟨a_38, c_39, a_40, c_41, rfl, rfl⟩, rfl⟩
  refine ⟨by simp, ?_⟩
  refine JA.one (i := 13) (by kernel_rfl) ?_
  refine JX.late rfl rfl (by decide) (by kernel_rfl) (JO.store 6 (vs := [.slice a_22 p.t.calls.length c_23]) (cs' := [.int .i64 p.t.id, .int .i64 p.t.age, .int .i64 p.t.proc, .int .i64 p.t.began, .slice a_22 p.t.calls.length c_23, .slice p.x.a1 p.t.ans.length p.x.c1, .slice p.x.a2 p.t.rd.length p.x.c2, .slice p.x.a3 p.t.wr.length p.x.c3, .slice p.x.a4 p.t.marks.length p.x.c4, .int .i64 p.t.state]) rfl rfl rfl rfl Tryz.sizeOf57 rfl rfl (Nat.le_of_ble_eq_true rfl) rfl) ?_
  rintro _ _ rfl
  refine JA.takeP 14 rfl (by kernel_rfl) (NP.th NP.body) (by kernel_rfl) (by kernel_rfl) rfl (PO.fieldAddr fo61_5 rfl) ?_
  refine JA.one (i := 15) (by kernel_rfl) ?_
  refine JX.late rfl rfl (by decide) (by kernel_rfl) (JO.store 6 (vs := [.slice a_28 p.t.ans.length c_29]) (cs' := [.int .i64 p.t.id, .int .i64 p.t.age, .int .i64 p.t.proc, .int .i64 p.t.began, .slice a_22 p.t.calls.length c_23, .slice a_28 p.t.ans.length c_29, .slice p.x.a2 p.t.rd.length p.x.c2, .slice p.x.a3 p.t.wr.length p.x.c3, .slice p.x.a4 p.t.marks.length p.x.c4, .int .i64 p.t.state]) rfl rfl rfl rfl Tryz.sizeOf58 rfl rfl (Nat.le_of_ble_eq_true rfl) rfl) ?_
  rintro _ _ rfl
  refine JA.takeP 16 rfl (by kernel_rfl) (NP.th NP.body) (by kernel_rfl) (by kernel_rfl) rfl (PO.fieldAddr fo61_7 rfl) ?_
  refine JA.one (i := 17) (by kernel_rfl) ?_
  refine JX.late rfl rfl (by decide) (by kernel_rfl) (JO.store 6 (vs := [.slice a_32 p.t.marks.length c_33]) (cs' := [.int .i64 p.t.id, .int .i64 p.t.age, .int .i64 p.t.proc, .int .i64 p.t.began, .slice a_22 p.t.calls.length c_23, .slice a_28 p.t.ans.length c_29, .slice p.x.a2 p.t.rd.length p.x.c2, .slice p.x.a3 p.t.wr.length p.x.c3, .slice a_32 p.t.marks.length c_33, .int .i64 p.t.state]) rfl rfl rfl rfl Tryz.sizeOf52 rfl rfl (Nat.le_of_ble_eq_true rfl) rfl) ?_
  rintro _ _ rfl
  refine JA.takeP 18 rfl (by kernel_rfl) (NP.th NP.body) (by kernel_rfl) (by kernel_rfl) rfl (PO.fieldAddr fo61_6 rfl) ?_
  refine JA.one (i := 19) (by kernel_rfl) ?_
  refine JX.last rfl rfl (by decide) (by kernel_rfl) (JO.store 6 (vs := [.slice a_38 p.t.rd.length c_39, .slice a_40 p.t.wr.length c_41]) (cs' := [.int .i64 p.t.id, .int .i64 p.t.age, .int .i64 p.t.proc, .int .i64 p.t.began, .slice a_22 p.t.calls.length c_23, .slice a_28 p.t.ans.length c_29, .slice a_38 p.t.rd.length c_39, .slice a_40 p.t.wr.length c_41, .slice a_32 p.t.marks.length c_33, .int .i64 p.t.state]) rfl rfl rfl rfl Tryz.sizeOf59 rfl rfl (Nat.le_of_ble_eq_true rfl) rfl) ?_
  rintro _ _ rfl
  refine JQ.seq ?_
  refine JC.seq ?_
  refine JC.region ?_
  refine JL.ld rfl (LO.loadK 6 (vs := [.int .i64 p.t.id, .int .i64 p.t.age, .int .i64 p.t.proc, .int .i64 p.t.began, .slice a_22 p.t.calls.length c_23, .slice a_28 p.t.ans.length c_29, .slice a_38 p.t.rd.length c_39, .slice a_40 p.t.wr.length c_41, .slice a_32 p.t.marks.length c_33, .int .i64 p.t.state]) rfl rfl Tryz.isAgg61 Tryz.sizeOf61 rfl rfl) ?_
  refine JL.op rfl (JO.store 5 (vs := [.int .i64 p.t.id, .int .i64 p.t.age, .int .i64 p.t.proc, .int .i64 p.t.began, .slice a_22 p.t.calls.length c_23, .slice a_28 p.t.ans.length c_29, .slice a_38 p.t.rd.length c_39, .slice a_40 p.t.wr.length c_41, .slice a_32 p.t.marks.length c_33, .int .i64 p.t.state]) (cs' := [.int .i64 p.t.id, .int .i64 p.t.age, .int .i64 p.t.proc, .int .i64 p.t.began, .slice a_22 p.t.calls.length c_23, .slice a_28 p.t.ans.length c_29, .slice a_38 p.t.rd.length c_39, .slice a_40 p.t.wr.length c_41, .slice a_32 p.t.marks.length c_33, .int .i64 p.t.state]) rfl rfl rfl rfl Tryz.sizeOf61 rfl rfl (Nat.le_of_ble_eq_true rfl) rfl) ?_
  rintro _ _ rfl
  refine JL.nil ?_
  refine JQ.seq ?_
  refine JC.ret ?_
  refine JQ.ghost (L' := [Res.rows (rdsX (⟨⟨a_22, c_23, a_28, c_29, a_38, c_39, a_40, c_41, a_32, c_33⟩, p.t⟩ : TX)), bk b_7 61 [.int .i64 p.t.id, .int .i64 p.t.age, .int .i64 p.t.proc, .int .i64 p.t.began, .slice a_22 p.t.calls.length c_23, .slice a_28 p.t.ans.length c_29, .slice a_38 p.t.rd.length c_39, .slice a_40 p.t.wr.length c_41, .slice a_32 p.t.marks.length c_33, .int .i64 p.t.state], bk b_6 61 [.int .i64 p.t.id, .int .i64 p.t.age, .int .i64 p.t.proc, .int .i64 p.t.began, .slice a_22 p.t.calls.length c_23, .slice a_28 p.t.ans.length c_29, .slice a_38 p.t.rd.length c_39, .slice a_40 p.t.wr.length c_41, .slice a_32 p.t.marks.length c_33, .int .i64 p.t.state]]) (fun w hw => hw.closeR (A := rdsX (⟨⟨a_22, c_23, a_28, c_29, a_38, c_39, a_40, c_41, a_32, c_33⟩, p.t⟩ : TX)) [4, 3, 0, 0, 0] rfl) ?_
  refine Done.one (.inl rfl) rfl (RV.cell1 (LO.loadK 1 (vs := [.int .i64 p.t.id, .int .i64 p.t.age, .int .i64 p.t.proc, .int .i64 p.t.began, .slice a_22 p.t.calls.length c_23, .slice a_28 p.t.ans.length c_29, .slice a_38 p.t.rd.length c_39, .slice a_40 p.t.wr.length c_41, .slice a_32 p.t.marks.length c_33, .int .i64 p.t.state]) rfl rfl Tryz.isAgg61 Tryz.sizeOf61 rfl rfl) ⟨_, rfl⟩) (List.sublist_append_left [Res.rows (rdsX (⟨⟨a_22, c_23, a_28, c_29, a_38, c_39, a_40, c_41, a_32, c_33⟩, p.t⟩ : TX))] [bk b_7 61 [.int .i64 p.t.id, .int .i64 p.t.age, .int .i64 p.t.proc, .int .i64 p.t.began, .slice a_22 p.t.calls.length c_23, .slice a_28 p.t.ans.length c_29, .slice a_38 p.t.rd.length c_39, .slice a_40 p.t.wr.length c_41, .slice a_32 p.t.marks.length c_33, .int .i64 p.t.state], bk b_6 61 [.int .i64 p.t.id, .int .i64 p.t.age, .int .i64 p.t.proc, .int .i64 p.t.began, .slice a_22 p.t.calls.length c_23, .slice a_28 p.t.ans.length c_29, .slice a_38 p.t.rd.length c_39, .slice a_40 p.t.wr.length c_41, .slice a_32 p.t.marks.length c_33, .int .i64 p.t.state]]) ?_
  exact ⟨(⟨⟨a_22, c_23, a_28, c_29, a_38, c_39, a_40, c_41, a_32, c_33⟩, p.t⟩ : TX), rfl, rfl, rfl⟩

theorem Z_specl17Copy (p : TX) (hl : p.t.lim 1000000000) :
    Ct Tryz.prog 59 [.agg #[.int .i64 p.t.id, .int .i64 p.t.age, .int .i64 p.t.proc, .int .i64 p.t.began, .slice p.x.a0 p.t.calls.length p.x.c0, .slice p.x.a1 p.t.ans.length p.x.c1, .slice p.x.a2 p.t.rd.length p.x.c2, .slice p.x.a3 p.t.wr.length p.x.c3, .slice p.x.a4 p.t.marks.length p.x.c4, .int .i64 p.t.state]] [] (fun w => SeesA w (rdsX p)) (fun v A' => ∃ y : TX, y.t = p.t ∧ v = .agg #[.int .i64 y.t.id, .int .i64 y.t.age, .int .i64 y.t.proc, .int .i64 y.t.began, .slice y.x.a0 y.t.calls.length y.x.c0, .slice y.x.a1 y.t.ans.length y.x.c1, .slice y.x.a2 y.t.rd.length y.x.c2, .slice y.x.a3 y.t.wr.length y.x.c3, .slice y.x.a4 y.t.marks.length y.x.c4, .int .i64 y.t.state] ∧ A' = [.rows (rdsX y)]) := by
  obtain ⟨hb0, hb1, hb2, hb3, hb4⟩ := hl
  refine Ct.intro Tryz.func59 rfl Tryz.ntmps59 (Nat.le_of_ble_eq_true rfl) fun w0 hpre => ?_
  obtain ⟨hs_1, hs_2, hs_3, hs_4, hs_5⟩ := seesX hpre
  refine JC.seq ?_
  refine JC.region ?_
  refine JL.op rfl (JO.box (cs := [.int .i64 p.t.id, .int .i64 p.t.age, .int .i64 p.t.proc, .int .i64 p.t.began, .slice p.x.a0 p.t.calls.length p.x.c0, .slice p.x.a1 p.t.ans.length p.x.c1, .slice p.x.a2 p.t.rd.length p.x.c2, .slice p.x.a3 p.t.wr.length p.x.c3, .slice p.x.a4 p.t.marks.length p.x.c4, .int .i64 p.t.state]) rfl rfl) ?_
  rintro _ _ ⟨b_6, rfl, rfl⟩
  refine JL.op rfl (JO.alloc (z := .agg #[.int .i64 0, .int .i64 0, .int .i64 0, .int .i64 0, .slice none 0 0, .slice none 0 0, .slice none 0 0, .slice none 0 0, .slice none 0 0, .int .i64 0]) (cs := [.int .i64 0, .int .i64 0, .int .i64 0, .int .i64 0, .slice none 0 0, .slice none 0 0, .slice none 0 0, .slice none 0 0, .slice none 0 0, .int .i64 0]) Tryz.zeroValue61 rfl) ?_
  rintro _ _ ⟨b_7, rfl, rfl⟩
  refine JL.nil ?_
  refine JQ.seq ?_
  refine JC.seq ?_
  refine JC.region ?_
  refine JL.op rfl (JO.buildSlice (ps := []) (cur := #[]) Tryz.underlying57 Tryz.sizeOf152 Tryz.zeroValue152 rfl (by kernel_rfl) (by decide) (by decide)) ?_
  rintro _ _ ⟨a_8, rfl, rfl⟩
  refine JL.pure rfl (PO.fieldAddr fo61_4 rfl) ?_
  refine JL.ld rfl (LO.load1 2 (v := .slice p.x.a0 p.t.calls.length p.x.c0) rfl rfl Tryz.isAgg57 rfl) ?_
  refine JL.op rfl (JO.append' 0 (q := p.t.calls.length) (news := p.t.calls.flatMap encK) (n' := p.t.calls.length) (cs' := p.t.calls.flatMap encK) rfl Tryz.underlying57 Tryz.underlying57 Tryz.typeInfo152 rfl (by' := 72) rfl rfl rfl rfl rfl (fun w hw => Src.sees (hw.seeOut_ hs_1 (fun _ _ => List.not_mem_nil)) (oneK _)) (by (try simp only [List.length_append, List.length_cons, List.length_nil, List.length_take, List.length_drop]); omega) (by (try simp only [List.length_append, List.length_cons, List.length_nil, List.length_take, List.length_drop]); omega) (by (try simp only [List.length_take, List.length_drop]); first | rfl | omega) rfl) ?_
  rintro _ _ ⟨a_9, c_10, rfl, rfl⟩
  refine JL.pure rfl (PO.fieldAddr fo61_4 rfl) ?_
  refine JL.op rfl (JO.store 2 (vs := [.slice a_9 p.t.calls.length c_10]) (cs' := [.int .i64 p.t.id, .int .i64 p.t.age, .int .i64 p.t.proc, .int .i64 p.t.began, .slice a_9 p.t.calls.length c_10, .slice p.x.a1 p.t.ans.length p.x.c1, .slice p.x.a2 p.t.rd.length p.x.c2, .slice p.x.a3 p.t.wr.length p.x.c3, .slice p.x.a4 p.t.marks.length p.x.c4, .int .i64 p.t.state]) rfl rfl rfl rfl Tryz.sizeOf57 rfl rfl (Nat.le_of_ble_eq_true rfl) rfl) ?_
  rintro _ _ rfl
  refine JL.nil ?_
  refine JQ.seq ?_
  refine JC.seq ?_
  refine JC.region ?_
  refine JL.op rfl (JO.buildSlice (ps := []) (cur := #[]) Tryz.underlying58 Tryz.sizeOf154 Tryz.zeroValue154 rfl (by kernel_rfl) (by decide) (by decide)) ?_
  rintro _ _ ⟨a_11, rfl, rfl⟩
  refine JL.pure rfl (PO.fieldAddr fo61_5 rfl) ?_
  refine JL.ld rfl (LO.load1 3 (v := .slice p.x.a1 p.t.ans.length p.x.c1) rfl rfl Tryz.isAgg58 rfl) ?_
  refine JL.op rfl (JO.append' 0 (q := p.t.ans.length) (news := p.t.ans.flatMap encA) (n' := p.t.ans.length) (cs' := p.t.ans.flatMap encA) rfl Tryz.underlying58 Tryz.underlying58 Tryz.typeInfo154 rfl (by' := 32) rfl rfl rfl rfl rfl (fun w hw => Src.sees (hw.seeOut_ hs_2 (fun _ _ => List.not_mem_nil)) (oneA _)) (by (try simp only [List.length_append, List.length_cons, List.length_nil, List.length_take, List.length_drop]); omega) (by (try simp only [List.length_append, List.length_cons, List.length_nil, List.length_take, List.length_drop]); omega) (by (try simp only [List.length_take, List.length_drop]); first | rfl | omega) rfl) ?_
  rintro _ _ ⟨a_12, c_13, rfl, rfl⟩
  refine JL.pure rfl (PO.fieldAddr fo61_5 rfl) ?_
  refine JL.op rfl (JO.store 3 (vs := [.slice a_12 p.t.ans.length c_13]) (cs' := [.int .i64 p.t.id, .int .i64 p.t.age, .int .i64 p.t.proc, .int .i64 p.t.began, .slice a_9 p.t.calls.length c_10, .slice a_12 p.t.ans.length c_13, .slice p.x.a2 p.t.rd.length p.x.c2, .slice p.x.a3 p.t.wr.length p.x.c3, .slice p.x.a4 p.t.marks.length p.x.c4, .int .i64 p.t.state]) rfl rfl rfl rfl Tryz.sizeOf58 rfl rfl (Nat.le_of_ble_eq_true rfl) rfl) ?_
  rintro _ _ rfl
  refine JL.nil ?_
  refine JQ.seq ?_
  refine JC.seq ?_
  refine JC.regionA [Res.row (.slice a_12 p.t.ans.length c_13) 154 3 p.t.ans.length (p.t.ans.flatMap encA), Res.row (.slice a_9 p.t.calls.length c_10) 152 6 p.t.calls.length (p.t.calls.flatMap encK), bk b_7 61 [.int .i64 0, .int .i64 0, .int .i64 0, .int .i64 0, .slice none 0 0, .slice none 0 0, .slice none 0 0, .slice none 0 0, .slice none 0 0, .int .i64 0], bk b_6 61 [.int .i64 p.t.id, .int .i64 p.t.age, .int .i64 p.t.proc, .int .i64 p.t.began, .slice a_9 p.t.calls.length c_10, .slice a_12 p.t.ans.length c_13, .slice p.x.a2 p.t.rd.length p.x.c2, .slice p.x.a3 p.t.wr.length p.x.c3, .slice p.x.a4 p.t.marks.length p.x.c4, .int .i64 p.t.state]] 11 mixed (by simp) ?_
  refine JA.takeP 1 rfl (by kernel_rfl) (NP.th NP.body) (by kernel_rfl) (by kernel_rfl) rfl (PO.fieldAddr fo61_6 rfl) ?_
  refine JA.takeP 2 rfl (by kernel_rfl) (NP.th NP.body) (by kernel_rfl) (by kernel_rfl) rfl (PO.fieldAddr fo59_0 rfl) ?_
  refine JA.take 3 rfl (by kernel_rfl) (NP.th NP.body) (by kernel_rfl) (by kernel_rfl) (by kernel_rfl) rfl (LO.load1 3 (v := .slice p.x.a2 p.t.rd.length p.x.c2) rfl rfl Tryz.isAgg30 rfl) ?_
  refine JA.takeP 6 rfl (by kernel_rfl) (NP.th NP.body) (by kernel_rfl) (by kernel_rfl) rfl (PO.fieldAddr fo61_6 rfl) ?_
  refine JA.takeP 7 rfl (by kernel_rfl) (NP.th NP.body) (by kernel_rfl) (by kernel_rfl) rfl (PO.fieldAddr fo59_1 rfl) ?_
  refine JA.take 8 rfl (by kernel_rfl) (NP.th NP.body) (by kernel_rfl) (by kernel_rfl) (by kernel_rfl) rfl (LO.load1 3 (v := .slice p.x.a3 p.t.wr.length p.x.c3) rfl rfl Tryz.isAgg30 rfl) ?_
  refine JA.two (i := 0) (j := 5) (by kernel_rfl) ?_ ?_
  · skip
    refine JX.op rfl rfl (JO.buildSlice (ps := []) (cur := #[]) Tryz.underlying30 Tryz.sizeOf9 Tryz.zeroValue9 rfl (by kernel_rfl) (by decide) (by decide)) ?_
    rintro _ _ ⟨a_25, rfl, rfl⟩
    refine ⟨by simp, ?_⟩
    refine JA.two (i := 4) (j := 5) (by kernel_rfl) ?_ ?_
    · skip
      refine JX.op rfl rfl (JO.append' 0 (q := p.t.rd.length) (news := p.t.rd.map str) (n' := p.t.rd.length) (cs' := p.t.rd.map str) rfl Tryz.underlying30 Tryz.underlying30 Tryz.typeInfo9 rfl (by' := 16) rfl rfl rfl rfl rfl (fun w hw => Src.sees (hw.seeOut_ hs_3 (fun _ _ => List.not_mem_nil)) (oneS _)) (by (try simp only [List.length_append, List.length_cons, List.length_nil, List.length_take, List.length_drop]); omega) (by (try simp only [List.length_append, List.length_cons, List.length_nil, List.length_take, List.length_drop]); omega) (by (try simp only [List.length_take, List.length_drop]); first | rfl | omega) rfl) ?_
      rintro _ _ ⟨a_29, c_30, rfl, rfl⟩
      refine ⟨by simp, ?_⟩
      refine JA.one (i := 5) (by kernel_rfl) ?_
      refine JX.op rfl rfl (JO.buildSlice (ps := []) (cur := #[]) Tryz.underlying30 Tryz.sizeOf9 Tryz.zeroValue9 rfl (by kernel_rfl) (by decide) (by decide)) ?_
      rintro _ _ ⟨a_32, rfl, rfl⟩
      refine ⟨by simp, ?_⟩
      refine JA.one (i := 9) (by kernel_rfl) ?_
      refine JX.op rfl rfl (JO.append' 0 (q := p.t.wr.length) (news := p.t.wr.map str) (n' := p.t.wr.length) (cs' := p.t.wr.map str) rfl Tryz.underlying30 Tryz.underlying30 Tryz.typeInfo9 rfl (by' := 16) rfl rfl rfl rfl rfl (fun w hw => Src.sees (hw.seeOut_ hs_4 (fun _ _ => List.not_mem_nil)) (oneS _)) (by (try simp only [List.length_append, List.length_cons, List.length_nil, List.length_take, List.length_drop]); omega) (by (try simp only [List.length_append, List.length_cons, List.length_nil, List.length_take, List.length_drop]); omega) (by (try simp only [List.length_take, List.length_drop]); first | rfl | omega) rfl) ?_
      rintro _ _ ⟨a_35, c_36, rfl, rfl⟩
      refine ⟨by simp, ?_⟩
      refine JA.takeP 10 rfl (by kernel_rfl) (NP.th NP.body) (by kernel_rfl) (by kernel_rfl) rfl (PO.build (ps := [(0, .slice a_29 p.t.rd.length c_30), (1, .slice a_35 p.t.wr.length c_36)]) (cs := [.slice a_29 p.t.rd.length c_30, .slice a_35 p.t.wr.length c_36]) rfl (by kernel_rfl)) ?_
      refine JA.takeP 11 rfl (by kernel_rfl) (NP.th NP.body) (by kernel_rfl) (by kernel_rfl) rfl (PO.fieldAddr fo61_6 rfl) ?_
      refine JA.one (i := 12) (by kernel_rfl) ?_
      refine JX.last rfl rfl (by decide) (by kernel_rfl) (JO.store 5 (vs := [.slice a_29 p.t.rd.length c_30, .slice a_35 p.t.wr.length c_36]) (cs' := [.int .i64 p.t.id, .int .i64 p.t.age, .int .i64 p.t.proc, .int .i64 p.t.began, .slice a_9 p.t.calls.length c_10, .slice a_12 p.t.ans.length c_13, .slice a_29 p.t.rd.length c_30, .slice a_35 p.t.wr.length c_36, .slice p.x.a4 p.t.marks.length p.x.c4, .int .i64 p.t.state]) rfl rfl rfl rfl Tryz.sizeOf59 rfl rfl (Nat.le_of_ble_eq_true rfl) rfl) ?_
      rintro _ _ rfl
      refine JQ.seq ?_
      refine JC.seq ?_
      refine JC.region ?_
      refine JL.op rfl (JO.buildSlice (ps := []) (cur := #[]) Tryz.underlying52 Tryz.sizeOf3 Tryz.zeroValue3 rfl (by kernel_rfl) (by decide) (by decide)) ?_
      rintro _ _ ⟨a_37, rfl, rfl⟩
      refine JL.pure rfl (PO.fieldAddr fo61_7 rfl) ?_
      refine JL.ld rfl (LO.load1 6 (v := .slice p.x.a4 p.t.marks.length p.x.c4) rfl rfl Tryz.isAgg52 rfl) ?_
      refine JL.op rfl (JO.append' 0 (q := p.t.marks.length) (news := p.t.marks.map (Value.int .i64)) (n' := p.t.marks.length) (cs' := p.t.marks.map (Value.int .i64)) rfl Tryz.underlying52 Tryz.underlying52 Tryz.typeInfo3 rfl (by' := 8) rfl rfl rfl rfl rfl (fun w hw => Src.sees (hw.seeOut_ hs_5 (fun _ _ => List.not_mem_nil)) (oneI _)) (by (try simp only [List.length_append, List.length_cons, List.length_nil, List.length_take, List.length_drop]); omega) (by (try simp only [List.length_append, List.length_cons, List.length_nil, List.length_take, List.length_drop]); omega) (by (try simp only [List.length_take, List.length_drop]); first | rfl | omega) rfl) ?_
      rintro _ _ ⟨a_38, c_39, rfl, rfl⟩
      refine JL.pure rfl (PO.fieldAddr fo61_7 rfl) ?_
      refine JL.op rfl (JO.store 6 (vs := [.slice a_38 p.t.marks.length c_39]) (cs' := [.int .i64 p.t.id, .int .i64 p.t.age, .int .i64 p.t.proc, .int .i64 p.t.began, .slice a_9 p.t.calls.length c_10, .slice a_12 p.t.ans.length c_13, .slice a_29 p.t.rd.length c_30, .slice a_35 p.t.wr.length c_36, .slice a_38 p.t.marks.length c_39, .int .i64 p.t.state]) rfl rfl rfl rfl Tryz.sizeOf52 rfl rfl (Nat.le_of_ble_eq_true rfl) rfl) ?_
      rintro _ _ rfl
      refine JL.nil ?_
      refine JQ.seq ?_
      refine JC.seq ?_
      refine JC.region ?_
      refine JL.ld rfl (LO.loadK 6 (vs := [.int .i64 p.t.id, .int .i64 p.t.age, .int .i64 p.t.proc, .int .i64 p.t.began, .slice a_9 p.t.calls.length c_10, .slice a_12 p.t.ans.length c_13, .slice a_29 p.t.rd.length c_30, .slice a_35 p.t.wr.length c_36, .slice a_38 p.t.marks.length c_39, .int .i64 p.t.state]) rfl rfl Tryz.isAgg61 Tryz.sizeOf61 rfl rfl) ?_
      refine JL.op rfl (JO.store 5 (vs := [.int .i64 p.t.id, .int .i64 p.t.age, .int .i64 p.t.proc, .int .i64 p.t.began, .slice a_9 p.t.calls.length c_10, .slice a_12 p.t.ans.length c_13, .slice a_29 p.t.rd.length c_30, .slice a_35 p.t.wr.length c_36, .slice a_38 p.t.marks.length c_39, .int .i64 p.t.state]) (cs' := [.int .i64 p.t.id, .int .i64 p.t.age, .int .i64 p.t.proc, .int .i64 p.t.began, .slice a_9 p.t.calls.length c_10, .slice a_12 p.t.ans.length c_13, .slice a_29 p.t.rd.length c_30, .slice a_35 p.t.wr.length c_36, .slice a_38 p.t.marks.length c_39, .int .i64 p.t.state]) rfl rfl rfl rfl Tryz.sizeOf61 rfl rfl (Nat.le_of_ble_eq_true rfl) rfl) ?_
      rintro _ _ rfl
      refine JL.nil ?_
      refine JQ.seq ?_
      refine JC.ret ?_
      refine JQ.ghost (L' := [Res.rows (rdsX (⟨⟨a_9, c_10, a_12, c_13, a_29, c_30, a_35, c_36, a_38, c_39⟩, p.t⟩ : TX)), bk b_7 61 [.int .i64 p.t.id, .int .i64 p.t.age, .int .i64 p.t.proc, .int .i64 p.t.began, .slice a_9 p.t.calls.length c_10, .slice a_12 p.t.ans.length c_13, .slice a_29 p.t.rd.length c_30, .slice a_35 p.t.wr.length c_36, .slice a_38 p.t.marks.length c_39, .int .i64 p.t.state], bk b_6 61 [.int .i64 p.t.id, .int .i64 p.t.age, .int .i64 p.t.proc, .int .i64 p.t.began, .slice a_9 p.t.calls.length c_10, .slice a_12 p.t.ans.length c_13, .slice a_29 p.t.rd.length c_30, .slice a_35 p.t.wr.length c_36, .slice a_38 p.t.marks.length c_39, .int .i64 p.t.state]]) (fun w hw => hw.closeR (A := rdsX (⟨⟨a_9, c_10, a_12, c_13, a_29, c_30, a_35, c_36, a_38, c_39⟩, p.t⟩ : TX)) [4, 3, 2, 1, 0] rfl) ?_
      refine Done.one (.inl rfl) rfl (RV.cell1 (LO.loadK 1 (vs := [.int .i64 p.t.id, .int .i64 p.t.age, .int .i64 p.t.proc, .int .i64 p.t.began, .slice a_9 p.t.calls.length c_10, .slice a_12 p.t.ans.length c_13, .slice a_29 p.t.rd.length c_30, .slice a_35 p.t.wr.length c_36, .slice a_38 p.t.marks.length c_39, .int .i64 p.t.state]) rfl rfl Tryz.isAgg61 Tryz.sizeOf61 rfl rfl) ⟨_, rfl⟩) (List.sublist_append_left [Res.rows (rdsX (⟨⟨a_9, c_10, a_12, c_13, a_29, c_30, a_35, c_36, a_38, c_39⟩, p.t⟩ : TX))] [bk b_7 61 [.int .i64 p.t.id, .int .i64 p.t.age, .int .i64 p.t.proc, .int .i64 p.t.began, .slice a_9 p.t.calls.length c_10, .slice a_12 p.t.ans.length c_13, .slice a_29 p.t.rd.length c_30, .slice a_35 p.t.wr.length c_36, .slice a_38 p.t.marks.length c_39, .int .i64 p.t.state], bk b_6 61 [.int .i64 p.t.id, .int .i64 p.t.age, .int .i64 p.t.proc, .int .i64 p.t.began, .slice a_9 p.t.calls.length c_10, .slice a_12 p.t.ans.length c_13, .slice a_29 p.t.rd.length c_30, .slice a_35 p.t.wr.length c_36, .slice a_38 p.t.marks.length c_39, .int .i64 p.t.state]]) ?_
      exact ⟨(⟨⟨a_9, c_10, a_12, c_13, a_29, c_30, a_35, c_36, a_38, c_39⟩, p.t⟩ : TX), rfl, rfl, rfl⟩
    · skip
      refine JX.op rfl rfl (JO.buildSlice (ps := []) (cur := #[]) Tryz.underlying30 Tryz.sizeOf9 Tryz.zeroValue9 rfl (by kernel_rfl) (by decide) (by decide)) ?_
      rintro _ _ ⟨a_40, rfl, rfl⟩
      refine ⟨by simp, ?_⟩
      refine JA.one (i := 4) (by kernel_rfl) ?_
      refine JX.op rfl rfl (JO.append' 1 (q := p.t.rd.length) (news := p.t.rd.map str) (n' := p.t.rd.length) (cs' := p.t.rd.map str) rfl Tryz.underlying30 Tryz.underlying30 Tryz.typeInfo9 rfl (by' := 16) rfl rfl rfl rfl rfl (fun w hw => Src.sees (hw.seeOut_ hs_3 (fun _ _ => List.not_mem_nil)) (oneS _)) (by (try simp only [List.length_append, List.length_cons, List.length_nil, List.length_take, List.length_drop]); omega) (by (try simp only [List.length_append, List.length_cons, List.length_nil, List.length_take, List.length_drop]); omega) (by (try simp only [List.length_take, List.length_drop]); first | rfl | omega) rfl) ?_
      rintro _ _ ⟨a_43, c_44, rfl, rfl⟩
      refine ⟨by simp, ?_⟩
      refine JA.one (i := 9) (by kernel_rfl) ?_
      refine JX.op rfl rfl (JO.append' 0 (q := p.t.wr.length) (news := p.t.wr.map str) (n' := p.t.wr.length) (cs' := p.t.wr.map str) rfl Tryz.underlying30 Tryz.underlying30 Tryz.typeInfo9 rfl (by' := 16) rfl rfl rfl rfl rfl (fun w hw => Src.sees (hw.seeOut_ hs_4 (fun _ _ => List.not_mem_nil)) (oneS _)) (by (try simp only [List.length_append, List.length_cons, List.length_nil, List.length_take, List.length_drop]); omega) (by (try simp only [List.length_append, List.length_cons, List.length_nil, List.length_take, List.length_drop]); omega) (by (try simp only [List.length_take, List.length_drop]); first | rfl | omega) rfl) ?_
      rintro _ _ ⟨a_47, c_48, rfl, rfl⟩
      refine ⟨by simp, ?_⟩
      refine JA.takeP 10 rfl (by kernel_rfl) (NP.th NP.body) (by kernel_rfl) (by kernel_rfl) rfl (PO.build (ps := [(0, .slice a_43 p.t.rd.length c_44), (1, .slice a_47 p.t.wr.length c_48)]) (cs := [.slice a_43 p.t.rd.length c_44, .slice a_47 p.t.wr.length c_48]) rfl (by kernel_rfl)) ?_
      refine JA.takeP 11 rfl (by kernel_rfl) (NP.th NP.body) (by kernel_rfl) (by kernel_rfl) rfl (PO.fieldAddr fo61_6 rfl) ?_
      refine JA.one (i := 12) (by kernel_rfl) ?_
      refine JX.last rfl rfl (by decide) (by kernel_rfl) (JO.store 5 (vs := [.slice a_43 p.t.rd.length c_44, .slice a_47 p.t.wr.length c_48]) (cs' := [.int .i64 p.t.id, .int .i64 p.t.age, .int .i64 p.t.proc, .int .i64 p.t.began, .slice a_9 p.t.calls.length c_10, .slice a_12 p.t.ans.length c_13, .slice a_43 p.t.rd.length c_44, .slice a_47 p.t.wr.length c_48, .slice p.x.a4 p.t.marks.length p.x.c4, .int .i64 p.t.state]) rfl rfl rfl rfl Tryz.sizeOf59 rfl rfl (Nat.le_of_ble_eq_true rfl) rfl) ?_
      rintro _ _ rfl
      refine JQ.seq ?_
      refine JC.seq ?_
      refine JC.region ?_
      refine JL.op rfl (JO.buildSlice (ps := []) (cur := #[]) Tryz.underlying52 Tryz.sizeOf3 Tryz.zeroValue3 rfl (by kernel_rfl) (by decide) (by decide)) ?_
      rintro _ _ ⟨a_49, rfl, rfl⟩
      refine JL.pure rfl (PO.fieldAddr fo61_7 rfl) ?_
      refine JL.ld rfl (LO.load1 6 (v := .slice p.x.a4 p.t.marks.length p.x.c4) rfl rfl Tryz.isAgg52 rfl) ?_
      refine JL.op rfl (JO.append' 0 (q := p.t.marks.length) (news := p.t.marks.map (Value.int .i64)) (n' := p.t.marks.length) (cs' := p.t.marks.map (Value.int .i64)) rfl Tryz.underlying52 Tryz.underlying52 Tryz.typeInfo3 rfl (by' := 8) rfl rfl rfl rfl rfl (fun w hw => Src.sees (hw.seeOut_ hs_5 (fun _ _ => List.not_mem_nil)) (oneI _)) (by (try simp only [List.length_append, List.length_cons, List.length_nil, List.length_take, List.length_drop]); omega) (by (try simp only [List.length_append, List.length_cons, List.length_nil, List.length_take, List.length_drop]); omega) (by (try simp only [List.length_take, List.length_drop]); first | rfl | omega) rfl) ?_
      rintro _ _ ⟨a_50, c_51, rfl, rfl⟩
      refine JL.pure rfl (PO.fieldAddr fo61_7 rfl) ?_
      refine JL.op rfl (JO.store 6 (vs := [.slice a_50 p.t.marks.length c_51]) (cs' := [.int .i64 p.t.id, .int .i64 p.t.age, .int .i64 p.t.proc, .int .i64 p.t.began, .slice a_9 p.t.calls.length c_10, .slice a_12 p.t.ans.length c_13, .slice a_43 p.t.rd.length c_44, .slice a_47 p.t.wr.length c_48, .slice a_50 p.t.marks.length c_51, .int .i64 p.t.state]) rfl rfl rfl rfl Tryz.sizeOf52 rfl rfl (Nat.le_of_ble_eq_true rfl) rfl) ?_
      rintro _ _ rfl
      refine JL.nil ?_
      refine JQ.seq ?_
      refine JC.seq ?_
      refine JC.region ?_
      refine JL.ld rfl (LO.loadK 6 (vs := [.int .i64 p.t.id, .int .i64 p.t.age, .int .i64 p.t.proc, .int .i64 p.t.began, .slice a_9 p.t.calls.length c_10, .slice a_12 p.t.ans.length c_13, .slice a_43 p.t.rd.length c_44, .slice a_47 p.t.wr.length c_48, .slice a_50 p.t.marks.length c_51, .int .i64 p.t.state]) rfl rfl Tryz.isAgg61 Tryz.sizeOf61 rfl rfl) ?_
      refine JL.op rfl (JO.store 5 (vs := [.int .i64 p.t.id, .int .i64 p.t.age, .int .i64 p.t.proc, .int .i64 p.t.began, .slice a_9 p.t.calls.length c_10, .slice a_12 p.t.ans.length c_13, .slice a_43 p.t.rd.length c_44, .slice a_47 p.t.wr.length c_48, .slice a_50 p.t.marks.length c_51, .int .i64 p.t.state]) (cs' := [.int .i64 p.t.id, .int .i64 p.t.age, .int .i64 p.t.proc, .int .i64 p.t.began, .slice a_9 p.t.calls.length c_10, .slice a_12 p.t.ans.length c_13, .slice a_43 p.t.rd.length c_44, .slice a_47 p.t.wr.length c_48, .slice a_50 p.t.marks.length c_51, .int .i64 p.t.state]) rfl rfl rfl rfl Tryz.sizeOf61 rfl rfl (Nat.le_of_ble_eq_true rfl) rfl) ?_
      rintro _ _ rfl
      refine JL.nil ?_
      refine JQ.seq ?_
      refine JC.ret ?_
      refine JQ.ghost (L' := [Res.rows (rdsX (⟨⟨a_9, c_10, a_12, c_13, a_43, c_44, a_47, c_48, a_50, c_51⟩, p.t⟩ : TX)), bk b_7 61 [.int .i64 p.t.id, .int .i64 p.t.age, .int .i64 p.t.proc, .int .i64 p.t.began, .slice a_9 p.t.calls.length c_10, .slice a_12 p.t.ans.length c_13, .slice a_43 p.t.rd.length c_44, .slice a_47 p.t.wr.length c_48, .slice a_50 p.t.marks.length c_51, .int .i64 p.t.state], bk b_6 61 [.int .i64 p.t.id, .int .i64 p.t.age, .int .i64 p.t.proc, .int .i64 p.t.began, .slice a_9 p.t.calls.length c_10, .slice a_12 p.t.ans.length c_13, .slice a_43 p.t.rd.length c_44, .slice a_47 p.t.wr.length c_48, .slice a_50 p.t.marks.length c_51, .int .i64 p.t.state]]) (fun w hw => hw.closeR (A := rdsX (⟨⟨a_9, c_10, a_12, c_13, a_43, c_44, a_47, c_48, a_50, c_51⟩, p.t⟩ : TX)) [4, 3, 2, 1, 0] rfl) ?_
      refine Done.one (.inl rfl) rfl (RV.cell1 (LO.loadK 1 (vs := [.int .i64 p.t.id, .int .i64 p.t.age, .int .i64 p.t.proc, .int .i64 p.t.began, .slice a_9 p.t.calls.length c_10, .slice a_12 p.t.ans.length c_13, .slice a_43 p.t.rd.length c_44, .slice a_47 p.t.wr.length c_48, .slice a_50 p.t.marks.length c_51, .int .i64 p.t.state]) rfl rfl Tryz.isAgg61 Tryz.sizeOf61 rfl rfl) ⟨_, rfl⟩) (List.sublist_append_left [Res.rows (rdsX (⟨⟨a_9, c_10, a_12, c_13, a_43, c_44, a_47, c_48, a_50, c_51⟩, p.t⟩ : TX))] [bk b_7 61 [.int .i64 p.t.id, .int .i64 p.t.age, .int .i64 p.t.proc, .int .i64 p.t.began, .slice a_9 p.t.calls.length c_10, .slice a_12 p.t.ans.length c_13, .slice a_43 p.t.rd.length c_44, .slice a_47 p.t.wr.length c_48, .slice a_50 p.t.marks.length c_51, .int .i64 p.t.state], bk b_6 61 [.int .i64 p.t.id, .int .i64 p.t.age, .int .i64 p.t.proc, .int .i64 p.t.began, .slice a_9 p.t.calls.length c_10, .slice a_12 p.t.ans.length c_13, .slice a_43 p.t.rd.length c_44, .slice a_47 p.t.wr.length c_48, .slice a_50 p.t.marks.length c_51, .int .i64 p.t.state]]) ?_
      exact ⟨(⟨⟨a_9, c_10, a_12, c_13, a_43, c_44, a_47, c_48, a_50, c_51⟩, p.t⟩ : TX), rfl, rfl, rfl⟩
  · skip
    refine JX.op rfl rfl (JO.buildSlice (ps := []) (cur := #[]) Tryz.underlying30 Tryz.sizeOf9 Tryz.zeroValue9 rfl (by kernel_rfl) (by decide) (by decide)) ?_
    rintro _ _ ⟨a_52, rfl, rfl⟩
    refine ⟨by simp, ?_⟩
    refine JA.one (i := 0) (by kernel_rfl) ?_
    refine JX.op rfl rfl (JO.buildSlice (ps := []) (cur := #[]) Tryz.underlying30 Tryz.sizeOf9 Tryz.zeroValue9 rfl (by kernel_rfl) (by decide) (by decide)) ?_
    rintro _ _ ⟨a_54, rfl, rfl⟩
    refine ⟨by simp, ?_⟩
    refine JA.one (i := 4) (by kernel_rfl) ?_
    refine JX.op rfl rfl (JO.append' 0 (q := p.t.rd.length) (news := p.t.rd.map str) (n' := p.t.rd.length) (cs' := p.t.rd.map str) rfl Tryz.underlying30 Tryz.underlying30 Tryz.typeInfo9 rfl (by' := 16) rfl rfl rfl rfl rfl (fun w hw => Src.sees (hw.seeOut_ hs_3 (fun _ _ => List.not_mem_nil)) (oneS _)) (by (try simp only [List.length_append, List.length_cons, List.length_nil, List.length_take, List.length_drop]); omega) (by (try simp only [List.length_append, List.length_cons, List.length_nil, List.length_take, List.length_drop]); omega) (by (try simp only [List.length_take, List.length_drop]); first | rfl | omega) rfl) ?_
    rintro _ _ ⟨a_57, c_58, rfl, rfl⟩
    refine ⟨by simp, ?_⟩
    refine JA.one (i := 9) (by kernel_rfl) ?_
    refine JX.op rfl rfl (JO.append' 1 (q := p.t.wr.length) (news := p.t.wr.map str) (n' := p.t.wr.length) (cs' := p.t.wr.map str) rfl Tryz.underlying30 Tryz.underlying30 Tryz.typeInfo9 rfl (by' := 16) rfl rfl rfl rfl rfl (fun w hw => Src.sees (hw.seeOut_ hs_4 (fun _ _ => List.not_mem_nil)) (oneS _)) (by (try simp only [List.length_append, List.length_cons, List.length_nil, List.length_take, List.length_drop]); omega) (by (try simp only [List.length_append, List.length_cons, List.length_nil, List.length_take, List.length_drop]); omega) (by (try simp only [List.length_take, List.length_drop]); first | rfl | omega) rfl) ?_
    rintro _ _ ⟨a_61, c_62, rfl, rfl⟩
    refine ⟨by simp, ?_⟩
    refine JA.takeP 10 rfl (by kernel_rfl) (NP.th NP.body) (by kernel_rfl) (by kernel_rfl) rfl (PO.build (ps := [(0, .slice a_57 p.t.rd.length c_58), (1, .slice a_61 p.t.wr.length c_62)]) (cs := [.slice a_57 p.t.rd.length c_58, .slice a_61 p.t.wr.length c_62]) rfl (by kernel_rfl)) ?_
    refine JA.takeP 11 rfl (by kernel_rfl) (NP.th NP.body) (by kernel_rfl) (by kernel_rfl) rfl (PO.fieldAddr fo61_6 rfl) ?_
    refine JA.one (i := 12) (by kernel_rfl) ?_
    refine JX.last rfl rfl (by decide) (by kernel_rfl) (JO.store 5 (vs := [.slice a_57 p.t.rd.length c_58, .slice a_61 p.t.wr.length c_62]) (cs' := [.int .i64 p.t.id, .int .i64 p.t.age, .int .i64 p.t.proc, .int .i64 p.t.began, .slice a_9 p.t.calls.length c_10, .slice a_12 p.t.ans.length c_13, .slice a_57 p.t.rd.length c_58, .slice a_61 p.t.wr.length c_62, .slice p.x.a4 p.t.marks.length p.x.c4, .int .i64 p.t.state]) rfl rfl rfl rfl Tryz.sizeOf59 rfl rfl (Nat.le_of_ble_eq_true rfl) rfl) ?_
    rintro _ _ rfl
    refine JQ.seq ?_
    refine JC.seq ?_
    refine JC.region ?_
    refine JL.op rfl (JO.buildSlice (ps := []) (cur := #[]) Tryz.underlying52 Tryz.sizeOf3 Tryz.zeroValue3 rfl (by kernel_rfl) (by decide) (by decide)) ?_
    rintro _ _ ⟨a_63, rfl, rfl⟩
    refine JL.pure rfl (PO.fieldAddr fo61_7 rfl) ?_
    refine JL.ld rfl (LO.load1 6 (v := .slice p.x.a4 p.t.marks.length p.x.c4) rfl rfl Tryz.isAgg52 rfl) ?_
    refine JL.op rfl (JO.append' 0 (q := p.t.marks.length) (news := p.t.marks.map (Value.int .i64)) (n' := p.t.marks.length) (cs' := p.t.marks.map (Value.int .i64)) rfl Tryz.underlying52 Tryz.underlying52 Tryz.typeInfo3 rfl (by' := 8) rfl rfl rfl rfl rfl (fun w hw => Src.sees (hw.seeOut_ hs_5 (fun _ _ => List.not_mem_nil)) (oneI _)) (by (try simp only [List.length_append, List.length_cons, List.length_nil, List.length_take, List.length_drop]); omega) (by (try simp only [List.length_append, List.length_cons, List.length_nil, List.length_take, List.length_drop]); omega) (by (try simp only [List.length_take, List.length_drop]); first | rfl | omega) rfl) ?_
    rintro _ _ ⟨a_64, c_65, rfl, rfl⟩
    refine JL.pure rfl (PO.fieldAddr fo61_7 rfl) ?_
    refine JL.op rfl (JO.store 6 (vs := [.slice a_64 p.t.marks.length c_65]) (cs' := [.int .i64 p.t.id, .int .i64 p.t.age, .int .i64 p.t.proc, .int .i64 p.t.began, .slice a_9 p.t.calls.length c_10, .slice a_12 p.t.ans.length c_13, .slice a_57 p.t.rd.length c_58, .slice a_61 p.t.wr.length c_62, .slice a_64 p.t.marks.length c_65, .int .i64 p.t.state]) rfl rfl rfl rfl Tryz.sizeOf52 rfl rfl (Nat.le_of_ble_eq_true rfl) rfl) ?_
    rintro _ _ rfl
    refine JL.nil ?_
    refine JQ.seq ?_
    refine JC.seq ?_
    refine JC.region ?_
    refine JL.ld rfl (LO.loadK 6 (vs := [.int .i64 p.t.id, .int .i64 p.t.age, .int .i64 p.t.proc, .int .i64 p.t.began, .slice a_9 p.t.calls.length c_10, .slice a_12 p.t.ans.length c_13, .slice a_57 p.t.rd.length c_58, .slice a_61 p.t.wr.length c_62, .slice a_64 p.t.marks.length c_65, .int .i64 p.t.state]) rfl rfl Tryz.isAgg61 Tryz.sizeOf61 rfl rfl) ?_
    refine JL.op rfl (JO.store 5 (vs := [.int .i64 p.t.id, .int .i64 p.t.age, .int .i64 p.t.proc, .int .i64 p.t.began, .slice a_9 p.t.calls.length c_10, .slice a_12 p.t.ans.length c_13, .slice a_57 p.t.rd.length c_58, .slice a_61 p.t.wr.length c_62, .slice a_64 p.t.marks.length c_65, .int .i64 p.t.state]) (cs' := [.int .i64 p.t.id, .int .i64 p.t.age, .int .i64 p.t.proc, .int .i64 p.t.began, .slice a_9 p.t.calls.length c_10, .slice a_12 p.t.ans.length c_13, .slice a_57 p.t.rd.length c_58, .slice a_61 p.t.wr.length c_62, .slice a_64 p.t.marks.length c_65, .int .i64 p.t.state]) rfl rfl rfl rfl Tryz.sizeOf61 rfl rfl (Nat.le_of_ble_eq_true rfl) rfl) ?_
    rintro _ _ rfl
    refine JL.nil ?_
    refine JQ.seq ?_
    refine JC.ret ?_
    refine JQ.ghost (L' := [Res.rows (rdsX (⟨⟨a_9, c_10, a_12, c_13, a_57, c_58, a_61, c_62, a_64, c_65⟩, p.t⟩ : TX)), bk b_7 61 [.int .i64 p.t.id, .int .i64 p.t.age, .int .i64 p.t.proc, .int .i64 p.t.began, .slice a_9 p.t.calls.length c_10, .slice a_12 p.t.ans.length c_13, .slice a_57 p.t.rd.length c_58, .slice a_61 p.t.wr.length c_62, .slice a_64 p.t.marks.length c_65, .int .i64 p.t.state], bk b_6 61 [.int .i64 p.t.id, .int .i64 p.t.age, .int .i64 p.t.proc, .int .i64 p.t.began, .slice a_9 p.t.calls.length c_10, .slice a_12 p.t.ans.length c_13, .slice a_57 p.t.rd.length c_58, .slice a_61 p.t.wr.length c_62, .slice a_64 p.t.marks.length c_65, .int .i64 p.t.state]]) (fun w hw => hw.closeR (A := rdsX (⟨⟨a_9, c_10, a_12, c_13, a_57, c_58, a_61, c_62, a_64, c_65⟩, p.t⟩ : TX)) [4, 3, 1, 1, 0] rfl) ?_
    refine Done.one (.inl rfl) rfl (RV.cell1 (LO.loadK 1 (vs := [.int .i64 p.t.id, .int .i64 p.t.age, .int .i64 p.t.proc, .int .i64 p.t.began, .slice a_9 p.t.calls.length c_10, .slice a_12 p.t.ans.length c_13, .slice a_57 p.t.rd.length c_58, .slice a_61 p.t.wr.length c_62, .slice a_64 p.t.marks.length c_65, .int .i64 p.t.state]) rfl rfl Tryz.isAgg61 Tryz.sizeOf61 rfl rfl) ⟨_, rfl⟩) (List.sublist_append_left [Res.rows (rdsX (⟨⟨a_9, c_10, a_12, c_13, a_57, c_58, a_61, c_62, a_64, c_65⟩, p.t⟩ : TX))] [bk b_7 61 [.int .i64 p.t.id, .int .i64 p.t.age, .int .i64 p.t.proc, .int .i64 p.t.began, .slice a_9 p.t.calls.length c_10, .slice a_12 p.t.ans.length c_13, .slice a_57 p.t.rd.length c_58, .slice a_61 p.t.wr.length c_62, .slice a_64 p.t.marks.length c_65, .int .i64 p.t.state], bk b_6 61 [.int .i64 p.t.id, .int .i64 p.t.age, .int .i64 p.t.proc, .int .i64 p.t.began, .slice a_9 p.t.calls.length c_10, .slice a_12 p.t.ans.length c_13, .slice a_57 p.t.rd.length c_58, .slice a_61 p.t.wr.length c_62, .slice a_64 p.t.marks.length c_65, .int .i64 p.t.state]]) ?_
    exact ⟨(⟨⟨a_9, c_10, a_12, c_13, a_57, c_58, a_61, c_62, a_64, c_65⟩, p.t⟩ : TX), rfl, rfl, rfl⟩

theorem Z_specl26Entry (p : EX) (hl : p.t.lim 1000000000) :
    Ct Tryz.prog 88 [.agg #[.int .i64 p.t.seq, .int .i64 p.t.kind, .int .i64 p.t.tx, .slice p.x.a0 p.t.steps.length p.x.c0, .slice p.x.a1 p.t.ans.length p.x.c1, .int .i64 p.t.began, .int .i64 p.t.ended, .bool p.t.laid]] [] (fun w => SeesA w (rdsE p)) (fun v A' => ∃ y : EX, y.t = p.t ∧ v = .agg #[.int .i64 y.t.seq, .int .i64 y.t.kind, .int .i64 y.t.tx, .slice y.x.a0 y.t.steps.length y.x.c0, .slice y.x.a1 y.t.ans.length y.x.c1, .int .i64 y.t.began, .int .i64 y.t.ended, .bool y.t.laid] ∧ A' = [.rows (rdsE y)]) := by
  obtain ⟨hb0, hb1⟩ := hl
  refine Ct.intro Tryz.func88 rfl Tryz.ntmps88 (Nat.le_of_ble_eq_true rfl) fun w0 hpre => ?_
  obtain ⟨hs_1, hs_2⟩ := seesE hpre
  refine JC.seq ?_
  refine JC.region ?_
  refine JL.op rfl (JO.box (cs := [.int .i64 p.t.seq, .int .i64 p.t.kind, .int .i64 p.t.tx, .slice p.x.a0 p.t.steps.length p.x.c0, .slice p.x.a1 p.t.ans.length p.x.c1, .int .i64 p.t.began, .int .i64 p.t.ended, .bool p.t.laid]) rfl rfl) ?_
  rintro _ _ ⟨b_3, rfl, rfl⟩
  refine JL.op rfl (JO.alloc (z := .agg #[.int .i64 0, .int .i64 0, .int .i64 0, .slice none 0 0, .slice none 0 0, .int .i64 0, .int .i64 0, .bool false]) (cs := [.int .i64 0, .int .i64 0, .int .i64 0, .slice none 0 0, .slice none 0 0, .int .i64 0, .int .i64 0, .bool false]) Tryz.zeroValue129 rfl) ?_
  rintro _ _ ⟨b_4, rfl, rfl⟩
  refine JL.nil ?_
  refine JQ.seq ?_
  refine JC.seq ?_
  refine JC.region ?_
  refine JL.op rfl (JO.buildSlice (ps := []) (cur := #[]) Tryz.underlying127 Tryz.sizeOf179 Tryz.zeroValue179 rfl (by kernel_rfl) (by decide) (by decide)) ?_
  rintro _ _ ⟨a_5, rfl, rfl⟩
  refine JL.pure rfl (PO.fieldAddr fo129_3 rfl) ?_
  refine JL.ld rfl (LO.load1 2 (v := .slice p.x.a0 p.t.steps.length p.x.c0) rfl rfl Tryz.isAgg127 rfl) ?_
  refine JL.op rfl (JO.append' 0 (q := p.t.steps.length) (news := p.t.steps.flatMap encP) (n' := p.t.steps.length) (cs' := p.t.steps.flatMap encP) rfl Tryz.underlying127 Tryz.underlying127 Tryz.typeInfo179 rfl (by' := 80) rfl rfl rfl rfl rfl (fun w hw => Src.sees (hw.seeOut_ hs_1 (fun _ _ => List.not_mem_nil)) (oneP _)) (by (try simp only [List.length_append, List.length_cons, List.length_nil, List.length_take, List.length_drop]); omega) (by (try simp only [List.length_append, List.length_cons, List.length_nil, List.length_take, List.length_drop]); omega) (by (try simp only [List.length_take, List.length_drop]); first | rfl | omega) rfl) ?_
  rintro _ _ ⟨a_6, c_7, rfl, rfl⟩
  refine JL.pure rfl (PO.fieldAddr fo129_3 rfl) ?_
  refine JL.op rfl (JO.store 2 (vs := [.slice a_6 p.t.steps.length c_7]) (cs' := [.int .i64 p.t.seq, .int .i64 p.t.kind, .int .i64 p.t.tx, .slice a_6 p.t.steps.length c_7, .slice p.x.a1 p.t.ans.length p.x.c1, .int .i64 p.t.began, .int .i64 p.t.ended, .bool p.t.laid]) rfl rfl rfl rfl Tryz.sizeOf127 rfl rfl (Nat.le_of_ble_eq_true rfl) rfl) ?_
  rintro _ _ rfl
  refine JL.nil ?_
  refine JQ.seq ?_
  refine JC.seq ?_
  refine JC.region ?_
  refine JL.op rfl (JO.buildSlice (ps := []) (cur := #[]) Tryz.underlying58 Tryz.sizeOf154 Tryz.zeroValue154 rfl (by kernel_rfl) (by decide) (by decide)) ?_
  rintro _ _ ⟨a_8, rfl, rfl⟩
  refine JL.pure rfl (PO.fieldAddr fo129_4 rfl) ?_
  refine JL.ld rfl (LO.load1 3 (v := .slice p.x.a1 p.t.ans.length p.x.c1) rfl rfl Tryz.isAgg58 rfl) ?_
  refine JL.op rfl (JO.append' 0 (q := p.t.ans.length) (news := p.t.ans.flatMap encA) (n' := p.t.ans.length) (cs' := p.t.ans.flatMap encA) rfl Tryz.underlying58 Tryz.underlying58 Tryz.typeInfo154 rfl (by' := 32) rfl rfl rfl rfl rfl (fun w hw => Src.sees (hw.seeOut_ hs_2 (fun _ _ => List.not_mem_nil)) (oneA _)) (by (try simp only [List.length_append, List.length_cons, List.length_nil, List.length_take, List.length_drop]); omega) (by (try simp only [List.length_append, List.length_cons, List.length_nil, List.length_take, List.length_drop]); omega) (by (try simp only [List.length_take, List.length_drop]); first | rfl | omega) rfl) ?_
  rintro _ _ ⟨a_9, c_10, rfl, rfl⟩
  refine JL.pure rfl (PO.fieldAddr fo129_4 rfl) ?_
  refine JL.op rfl (JO.store 3 (vs := [.slice a_9 p.t.ans.length c_10]) (cs' := [.int .i64 p.t.seq, .int .i64 p.t.kind, .int .i64 p.t.tx, .slice a_6 p.t.steps.length c_7, .slice a_9 p.t.ans.length c_10, .int .i64 p.t.began, .int .i64 p.t.ended, .bool p.t.laid]) rfl rfl rfl rfl Tryz.sizeOf58 rfl rfl (Nat.le_of_ble_eq_true rfl) rfl) ?_
  rintro _ _ rfl
  refine JL.nil ?_
  refine JQ.seq ?_
  refine JC.seq ?_
  refine JC.region ?_
  refine JL.ld rfl (LO.loadK 3 (vs := [.int .i64 p.t.seq, .int .i64 p.t.kind, .int .i64 p.t.tx, .slice a_6 p.t.steps.length c_7, .slice a_9 p.t.ans.length c_10, .int .i64 p.t.began, .int .i64 p.t.ended, .bool p.t.laid]) rfl rfl Tryz.isAgg129 Tryz.sizeOf129 rfl rfl) ?_
  refine JL.op rfl (JO.store 2 (vs := [.int .i64 p.t.seq, .int .i64 p.t.kind, .int .i64 p.t.tx, .slice a_6 p.t.steps.length c_7, .slice a_9 p.t.ans.length c_10, .int .i64 p.t.began, .int .i64 p.t.ended, .bool p.t.laid]) (cs' := [.int .i64 p.t.seq, .int .i64 p.t.kind, .int .i64 p.t.tx, .slice a_6 p.t.steps.length c_7, .slice a_9 p.t.ans.length c_10, .int .i64 p.t.began, .int .i64 p.t.ended, .bool p.t.laid]) rfl rfl rfl rfl Tryz.sizeOf129 rfl rfl (Nat.le_of_ble_eq_true rfl) rfl) ?_
  rintro _ _ rfl
  refine JL.nil ?_
  refine JQ.seq ?_
  refine JC.ret ?_
  refine JQ.ghost (L' := [Res.rows (rdsE (⟨⟨a_6, c_7, a_9, c_10⟩, p.t⟩ : EX)), bk b_4 129 [.int .i64 p.t.seq, .int .i64 p.t.kind, .int .i64 p.t.tx, .slice a_6 p.t.steps.length c_7, .slice a_9 p.t.ans.length c_10, .int .i64 p.t.began, .int .i64 p.t.ended, .bool p.t.laid], bk b_3 129 [.int .i64 p.t.seq, .int .i64 p.t.kind, .int .i64 p.t.tx, .slice a_6 p.t.steps.length c_7, .slice a_9 p.t.ans.length c_10, .int .i64 p.t.began, .int .i64 p.t.ended, .bool p.t.laid]]) (fun w hw => hw.closeR (A := rdsE (⟨⟨a_6, c_7, a_9, c_10⟩, p.t⟩ : EX)) [1, 0] rfl) ?_
  refine Done.one (.inl rfl) rfl (RV.cell1 (LO.loadK 1 (vs := [.int .i64 p.t.seq, .int .i64 p.t.kind, .int .i64 p.t.tx, .slice a_6 p.t.steps.length c_7, .slice a_9 p.t.ans.length c_10, .int .i64 p.t.began, .int .i64 p.t.ended, .bool p.t.laid]) rfl rfl Tryz.isAgg129 Tryz.sizeOf129 rfl rfl) ⟨_, rfl⟩) (List.sublist_append_left [Res.rows (rdsE (⟨⟨a_6, c_7, a_9, c_10⟩, p.t⟩ : EX))] [bk b_4 129 [.int .i64 p.t.seq, .int .i64 p.t.kind, .int .i64 p.t.tx, .slice a_6 p.t.steps.length c_7, .slice a_9 p.t.ans.length c_10, .int .i64 p.t.began, .int .i64 p.t.ended, .bool p.t.laid], bk b_3 129 [.int .i64 p.t.seq, .int .i64 p.t.kind, .int .i64 p.t.tx, .slice a_6 p.t.steps.length c_7, .slice a_9 p.t.ans.length c_10, .int .i64 p.t.began, .int .i64 p.t.ended, .bool p.t.laid]]) ?_
  exact ⟨(⟨⟨a_6, c_7, a_9, c_10⟩, p.t⟩ : EX), rfl, rfl, rfl⟩

theorem Z_impltxsCopy (a : Option Addr) (c : Nat) (s : List TX) (hn : s.length ≤ 1000000000) (hl : ∀ q ∈ s, q.t.lim 1000000000) :
    Ct Tryz.prog 94 [.slice a s.length c] [] (fun w => SeesA w (rdsXS a c s)) (fun r A' => ∃ a' c' y, y.map TX.t = s.map TX.t ∧ r = .slice a' y.length c' ∧ A' = [.rows (rdsXS a' c' y)]) := by
  refine Ct.intro Tryz.func94 rfl Tryz.ntmps94 (Nat.le_of_ble_eq_true rfl) fun w0 hpre => ?_
  have hs_1 : Sees w0 (.slice a s.length c) 10 s.length (s.flatMap encX) := (hpre).head
  have hi_2 : SeesA w0 (s.flatMap rdsX) := (hpre).tail
  refine JC.seq ?_
  refine JC.region ?_
  refine JL.pure rfl (PO.assign (v := .slice none 0 0) rfl) ?_
  refine JL.nil ?_
  refine JQ.seq ?_
  refine JC.seq ?_
  refine JC.region ?_
  refine JL.pure rfl (PO.assign (v := .slice none 0 0) rfl) ?_
  refine JL.nil ?_
  refine JQ.seq ?_
  refine JC.seq ?_
  refine JC.seq ?_
  refine JC.region ?_
  refine JL.pure rfl (PO.move (v := .slice a s.length c) rfl) ?_
  refine JL.pure rfl (PO.lenV Tryz.underlying35 rfl) ?_
  refine JL.pure rfl (PO.move (v := .int .i64 0) rfl) ?_
  refine JL.nil ?_
  refine JQ.seq ?_
  refine JC.block ?_
  refine JC.nilRow 61 10 ?_
  refine JC.ghost (L' := [Res.rows (([] : List TX).flatMap rdsX), Res.row (.slice none 0 0) 61 10 0 (([] : List TX).flatMap encX)]) (fun w hw => hw.nilR (α := TX) (f := rdsX) [0] (B := [Res.row (.slice none 0 0) 61 10 0 (([] : List TX).flatMap encX)]) (F := []) rfl) ?_
  refine JC.loop (fun k_ e_ L_ => ∃ j : Nat, ∃ ya : Option Addr, ∃ yc : Nat, ∃ y : List TX, (j ≤ s.length) ∧ (y.map TX.t = (s.take j).map TX.t) ∧ (y.length = j) ∧ e_ 2 = .slice none 0 0 ∧ e_ 3 = .slice ya y.length yc ∧ e_ 6 = .slice a s.length c ∧ e_ 7 = .int .i64 ((s.length : Nat) : Int) ∧ e_ 8 = .int .i64 ((j : Nat) : Int) ∧ L_ = [Res.rows (y.flatMap rdsX), Res.row (.slice ya y.length yc) 61 10 y.length (y.flatMap encX)] ∧ k_ = s.length - j) _ ⟨0, none, 0, [], by omega, rfl, rfl, rfl, rfl, rfl, rfl, rfl, rfl, rfl⟩ ?_
  rintro _ e_3 _ ⟨j, ya, yc, y, hj, hd, hyl, he_4, he_5, he_6, he_7, he_8, rfl, rfl⟩
  refine JC.seq ?_
  refine JC.region ?_
  refine JL.pure rfl (PO.lss he_8 he_7) ?_
  refine JL.nil ?_
  refine JQ.seq ?_
  refine JC.seq ?_
  by_cases h_9 : ((j : Nat) : Int) < ((s.length : Nat) : Int)
  · skip
    have hlt : j < s.length := by omega
    refine JC.condT (congrArg Value.bool (decide_eq_true h_9)) ?_
    refine JC.skip ?_
    refine JQ.seq ?_
    refine JC.seq ?_
    refine JC.block ?_
    refine JC.seq ?_
    refine JC.region ?_
    obtain ⟨hr_10, hr_10b, -⟩ := sees_some hs_1 (by omega)
    refine JL.pure rfl (PO.indexAddrV (i := j) Tryz.underlying35 Tryz.sizeOf61 hr_10 hr_10b he_6 he_8 (by omega)) ?_
    have hi_11 := SeesA.elem hi_2 x0 (show j < s.length by omega)
    obtain ⟨hs_12, hs_13, hs_14, hs_15, hs_16⟩ := seesX hi_11
    refine JL.ld rfl (LO.loadSK (vs := [.int .i64 ((s.getD j x0).t.id), .int .i64 ((s.getD j x0).t.age), .int .i64 ((s.getD j x0).t.proc), .int .i64 ((s.getD j x0).t.began), .slice ((s.getD j x0).x.a0) ((s.getD j x0).t.calls.length) ((s.getD j x0).x.c0), .slice ((s.getD j x0).x.a1) ((s.getD j x0).t.ans.length) ((s.getD j x0).x.c1), .slice ((s.getD j x0).x.a2) ((s.getD j x0).t.rd.length) ((s.getD j x0).x.c2), .slice ((s.getD j x0).x.a3) ((s.getD j x0).t.wr.length) ((s.getD j x0).x.c3), .slice ((s.getD j x0).x.a4) ((s.getD j x0).t.marks.length) ((s.getD j x0).x.c4), .int .i64 ((s.getD j x0).t.state)]) hs_1 (fun _ _ => List.not_mem_nil) rfl Tryz.isAgg61 Tryz.sizeOf61 (flat_take encX_len x0 s j (by omega)) rfl (by decide)) ?_
    refine JL.op rfl (JO.alloc (z := .agg #[.int .i64 0, .int .i64 0, .int .i64 0, .int .i64 0, .slice none 0 0, .slice none 0 0, .slice none 0 0, .slice none 0 0, .slice none 0 0, .int .i64 0]) (cs := [.int .i64 0, .int .i64 0, .int .i64 0, .int .i64 0, .slice none 0 0, .slice none 0 0, .slice none 0 0, .slice none 0 0, .slice none 0 0, .int .i64 0]) Tryz.zeroValue61 rfl) ?_
    rintro _ _ ⟨b_17, rfl, rfl⟩
    refine JL.op rfl (JO.store 0 (vs := [.int .i64 ((s.getD j x0).t.id), .int .i64 ((s.getD j x0).t.age), .int .i64 ((s.getD j x0).t.proc), .int .i64 ((s.getD j x0).t.began), .slice ((s.getD j x0).x.a0) ((s.getD j x0).t.calls.length) ((s.getD j x0).x.c0), .slice ((s.getD j x0).x.a1) ((s.getD j x0).t.ans.length) ((s.getD j x0).x.c1), .slice ((s.getD j x0).x.a2) ((s.getD j x0).t.rd.length) ((s.getD j x0).x.c2), .slice ((s.getD j x0).x.a3) ((s.getD j x0).t.wr.length) ((s.getD j x0).x.c3), .slice ((s.getD j x0).x.a4) ((s.getD j x0).t.marks.length) ((s.getD j x0).x.c4), .int .i64 ((s.getD j x0).t.state)]) (cs' := [.int .i64 ((s.getD j x0).t.id), .int .i64 ((s.getD j x0).t.age), .int .i64 ((s.getD j x0).t.proc), .int .i64 ((s.getD j x0).t.began), .slice ((s.getD j x0).x.a0) ((s.getD j x0).t.calls.length) ((s.getD j x0).x.c0), .slice ((s.getD j x0).x.a1) ((s.getD j x0).t.ans.length) ((s.getD j x0).x.c1), .slice ((s.getD j x0).x.a2) ((s.getD j x0).t.rd.length) ((s.getD j x0).x.c2), .slice ((s.getD j x0).x.a3) ((s.getD j x0).t.wr.length) ((s.getD j x0).x.c3), .slice ((s.getD j x0).x.a4) ((s.getD j x0).t.marks.length) ((s.getD j x0).x.c4), .int .i64 ((s.getD j x0).t.state)]) rfl rfl rfl rfl Tryz.sizeOf61 rfl rfl (Nat.le_of_ble_eq_true rfl) rfl) ?_
    rintro _ _ rfl
    refine JL.nil ?_
    refine JQ.seq ?_
    refine JC.region ?_
    refine JL.pure rfl (PO.move (v := .slice ya y.length yc) he_5) ?_
    refine JL.ld rfl (LO.loadK 0 (vs := [.int .i64 ((s.getD j x0).t.id), .int .i64 ((s.getD j x0).t.age), .int .i64 ((s.getD j x0).t.proc), .int .i64 ((s.getD j x0).t.began), .slice ((s.getD j x0).x.a0) ((s.getD j x0).t.calls.length) ((s.getD j x0).x.c0), .slice ((s.getD j x0).x.a1) ((s.getD j x0).t.ans.length) ((s.getD j x0).x.c1), .slice ((s.getD j x0).x.a2) ((s.getD j x0).t.rd.length) ((s.getD j x0).x.c2), .slice ((s.getD j x0).x.a3) ((s.getD j x0).t.wr.length) ((s.getD j x0).x.c3), .slice ((s.getD j x0).x.a4) ((s.getD j x0).t.marks.length) ((s.getD j x0).x.c4), .int .i64 ((s.getD j x0).t.state)]) rfl rfl Tryz.isAgg61 Tryz.sizeOf61 rfl rfl) ?_
    refine JL.op rfl (JO.call [] Tryz.call65 rfl (Z_implTxclone (s.getD j x0) (hl _ (getD_mem (show j < s.length by omega)))) rfl (fun w hw => hw.seeOutA hi_11 nMA)) ?_
    rintro _ _ ⟨_, ⟨y_18, hy_19, rfl, rfl⟩, rfl⟩
    refine JL.op rfl (JO.buildSlice (ps := [(0, .agg #[.int .i64 y_18.t.id, .int .i64 y_18.t.age, .int .i64 y_18.t.proc, .int .i64 y_18.t.began, .slice y_18.x.a0 y_18.t.calls.length y_18.x.c0, .slice y_18.x.a1 y_18.t.ans.length y_18.x.c1, .slice y_18.x.a2 y_18.t.rd.length y_18.x.c2, .slice y_18.x.a3 y_18.t.wr.length y_18.x.c3, .slice y_18.x.a4 y_18.t.marks.length y_18.x.c4, .int .i64 y_18.t.state])]) (cur := #[.int .i64 y_18.t.id, .int .i64 y_18.t.age, .int .i64 y_18.t.proc, .int .i64 y_18.t.began, .slice y_18.x.a0 y_18.t.calls.length y_18.x.c0, .slice y_18.x.a1 y_18.t.ans.length y_18.x.c1, .slice y_18.x.a2 y_18.t.rd.length y_18.x.c2, .slice y_18.x.a3 y_18.t.wr.length y_18.x.c3, .slice y_18.x.a4 y_18.t.marks.length y_18.x.c4, .int .i64 y_18.t.state]) Tryz.underlying35 Tryz.sizeOf61 Tryz.zeroValue61 rfl (by kernel_rfl) (by decide) (by decide)) ?_
    rintro _ _ ⟨a_20, rfl, rfl⟩
    refine JL.op rfl (JO.append' 4 (q := 1) (news := ([y_18] : List TX).flatMap encX) (n' := (y ++ ([y_18] : List TX)).length) (cs' := (y ++ ([y_18] : List TX)).flatMap encX) rfl Tryz.underlying35 Tryz.underlying35 Tryz.typeInfo61 rfl (by' := 160) rfl rfl rfl rfl rfl (fun w hw => Src.sees (hw.see (i := 0) rfl) (oneX _)) (by (try simp only [List.length_append, List.length_cons, List.length_nil, List.length_take, List.length_drop]); omega) (by (try simp only [List.length_append, List.length_cons, List.length_nil, List.length_take, List.length_drop]); omega) (by simp only [List.length_append, List.length_take, List.length_drop, List.length_cons, List.length_nil] <;> first | rfl | omega) (by simp only [List.flatMap_append])) ?_
    rintro _ _ ⟨a_21, c_22, rfl, rfl⟩
    refine JL.pure rfl (PO.assign (v := .slice a_21 ((y ++ ([y_18] : List TX)).length) c_22) rfl) ?_
    refine JL.nil ?_
    refine JQ.blockN ?_
    refine JQ.seq ?_
    refine JC.region ?_
    refine JL.pure rfl (PO.add (c := ((j + 1 : Nat) : Int)) he_8 rfl (wr (by omega))) ?_
    refine JL.pure rfl (PO.move (v := .int .i64 ((j + 1 : Nat) : Int)) rfl) ?_
    refine JL.nil ?_
    refine JQ.ghost (L' := [Res.rows ((y ++ [y_18]).flatMap rdsX), Res.row (.slice a_20 1 1) 61 10 1 (([y_18] : List TX).flatMap encX), bk b_17 61 [.int .i64 ((s.getD j x0).t.id), .int .i64 ((s.getD j x0).t.age), .int .i64 ((s.getD j x0).t.proc), .int .i64 ((s.getD j x0).t.began), .slice ((s.getD j x0).x.a0) ((s.getD j x0).t.calls.length) ((s.getD j x0).x.c0), .slice ((s.getD j x0).x.a1) ((s.getD j x0).t.ans.length) ((s.getD j x0).x.c1), .slice ((s.getD j x0).x.a2) ((s.getD j x0).t.rd.length) ((s.getD j x0).x.c2), .slice ((s.getD j x0).x.a3) ((s.getD j x0).t.wr.length) ((s.getD j x0).x.c3), .slice ((s.getD j x0).x.a4) ((s.getD j x0).t.marks.length) ((s.getD j x0).x.c4), .int .i64 ((s.getD j x0).t.state)], Res.row (.slice a_21 ((y ++ ([y_18] : List TX)).length) c_22) 61 10 ((y ++ ([y_18] : List TX)).length) ((y ++ ([y_18] : List TX)).flatMap encX)]) (fun w hw => hw.addR [3, 1] rfl flatMap_snoc) ?_
    refine JQ.pick [0, 2] (A := [Res.rows ((y ++ [y_18]).flatMap rdsX), Res.row (.slice a_21 ((y ++ ([y_18] : List TX)).length) c_22) 61 10 ((y ++ [y_18]).length) ((y ++ [y_18]).flatMap encX)]) rfl ?_
    refine JQ.again (s.length - (j + 1)) (by omega) ⟨j + 1, a_21, c_22, (y ++ [y_18]), by omega, (map_take_succ x0 hd hlt hy_19), (by rw [List.length_append, hyl]; rfl), he_4, rfl, he_6, he_7, rfl, rfl, rfl⟩
  · skip
    refine JC.condF (congrArg Value.bool (decide_eq_false h_9)) ?_
    refine JC.exit ?_
    refine JQ.thenExit ?_
    refine JQ.thenExit ?_
    refine JQ.blockE ?_
    refine JQ.seq ?_
    refine JC.seq ?_
    refine JC.region ?_
    refine JL.pure rfl (PO.move (v := .slice ya y.length yc) he_5) ?_
    refine JL.pure rfl (PO.assign (v := .slice ya y.length yc) rfl) ?_
    refine JL.nil ?_
    refine JQ.seq ?_
    refine JC.ret ?_
    refine JQ.ghost (L' := [Res.rows (rdsXS ya yc y)]) (fun w hw => hw.consR (r := ⟨.slice ya y.length yc, 61, 10, y.length, y.flatMap encX⟩) (A := y.flatMap rdsX) [1, 0] rfl) ?_
    refine Done.one (.inl rfl) rfl (RV.tmp (v := .slice ya y.length yc) rfl) (List.Sublist.refl _) ?_
    exact ⟨_, _, y, map_all hd (by omega), rfl, rfl⟩

theorem Z_specl19Copy (a : Option Addr) (c : Nat) (s : List TX) (hn : s.length ≤ 1000000000) (hl : ∀ q ∈ s, q.t.lim 1000000000) :
    Ct Tryz.prog 86 [.slice a s.length c] [] (fun w => SeesA w (rdsXS a c s)) (fun r A' => ∃ a' c' y, y.map TX.t = s.map TX.t ∧ r = .slice a' y.length c' ∧ A' = [.rows (rdsXS a' c' y)]) := by
  refine Ct.intro Tryz.func86 rfl Tryz.ntmps86 (Nat.le_of_ble_eq_true rfl) fun w0 hpre => ?_
  have hs_1 : Sees w0 (.slice a s.length c) 10 s.length (s.flatMap encX) := (hpre).head
  have hi_2 : SeesA w0 (s.flatMap rdsX) := (hpre).tail
  refine JC.seq ?_
  refine JC.region ?_
  refine JL.pure rfl (PO.assign (v := .slice none 0 0) rfl) ?_
  refine JL.nil ?_
  refine JQ.seq ?_
  refine JC.seq ?_
  refine JC.region ?_
  refine JL.op rfl (JO.buildSlice (ps := []) (cur := #[]) Tryz.underlying35 Tryz.sizeOf61 Tryz.zeroValue61 rfl (by kernel_rfl) (by decide) (by decide)) ?_
  rintro _ _ ⟨a_3, rfl, rfl⟩
  refine JL.pure rfl (PO.assign (v := .slice a_3 0 0) rfl) ?_
  refine JL.nil ?_
  refine JQ.seq ?_
  refine JC.seq ?_
  refine JC.seq ?_
  refine JC.region ?_
  refine JL.pure rfl (PO.assign (v := .int .i64 0) rfl) ?_
  refine JL.nil ?_
  refine JQ.seq ?_
  refine JC.block ?_
  refine JC.ghost (L' := [Res.rows (([] : List TX).flatMap rdsX), Res.row (.slice a_3 0 0) 61 10 0 (([] : List TX).flatMap encX)]) (fun w hw => hw.nilR (α := TX) (f := rdsX) [0] (B := [Res.row (.slice a_3 0 0) 61 10 0 (([] : List TX).flatMap encX)]) (F := []) rfl) ?_
  refine JC.loop (fun k_ e_ L_ => ∃ j : Nat, ∃ ya : Option Addr, ∃ yc : Nat, ∃ y : List TX, (j ≤ s.length) ∧ (y.map TX.t = (s.take j).map TX.t) ∧ (y.length = j) ∧ e_ 0 = .slice a s.length c ∧ e_ 2 = .slice none 0 0 ∧ e_ 3 = .slice ya y.length yc ∧ e_ 4 = .int .i64 ((j : Nat) : Int) ∧ L_ = [Res.rows (y.flatMap rdsX), Res.row (.slice ya y.length yc) 61 10 y.length (y.flatMap encX)] ∧ k_ = s.length - j) _ ⟨0, a_3, 0, [], by omega, rfl, rfl, rfl, rfl, rfl, rfl, rfl, rfl⟩ ?_
  rintro _ e_4 _ ⟨j, ya, yc, y, hj, hd, hyl, he_5, he_6, he_7, he_8, rfl, rfl⟩
  refine JC.seq ?_
  refine JC.seq ?_
  refine JC.region ?_
  refine JL.pure rfl (PO.move (v := .int .i64 ((j : Nat) : Int)) he_8) ?_
  refine JL.pure rfl (PO.move (v := .slice a s.length c) he_5) ?_
  refine JL.pure rfl (PO.lenV Tryz.underlying35 rfl) ?_
  refine JL.pure rfl (PO.lss rfl rfl) ?_
  refine JL.nil ?_
  refine JQ.seq ?_
  by_cases h_9 : ((j : Nat) : Int) < ((s.length : Nat) : Int)
  · skip
    have hlt : j < s.length := by omega
    refine JC.condT (congrArg Value.bool (decide_eq_true h_9)) ?_
    refine JC.skip ?_
    refine JQ.seq ?_
    refine JC.seq ?_
    refine JC.block ?_
    refine JC.region ?_
    refine JL.pure rfl (PO.move (v := .slice ya y.length yc) he_7) ?_
    refine JL.pure rfl (PO.move (v := .slice a s.length c) he_5) ?_
    refine JL.pure rfl (PO.move (v := .int .i64 ((j : Nat) : Int)) he_8) ?_
    obtain ⟨hr_10, hr_10b, -⟩ := sees_some hs_1 (by omega)
    refine JL.pure rfl (PO.indexAddrV (i := j) Tryz.underlying35 Tryz.sizeOf61 hr_10 hr_10b rfl rfl (by omega)) ?_
    have hi_11 := SeesA.elem hi_2 x0 (show j < s.length by omega)
    obtain ⟨hs_12, hs_13, hs_14, hs_15, hs_16⟩ := seesX hi_11
    refine JL.ld rfl (LO.loadSK (vs := [.int .i64 ((s.getD j x0).t.id), .int .i64 ((s.getD j x0).t.age), .int .i64 ((s.getD j x0).t.proc), .int .i64 ((s.getD j x0).t.began), .slice ((s.getD j x0).x.a0) ((s.getD j x0).t.calls.length) ((s.getD j x0).x.c0), .slice ((s.getD j x0).x.a1) ((s.getD j x0).t.ans.length) ((s.getD j x0).x.c1), .slice ((s.getD j x0).x.a2) ((s.getD j x0).t.rd.length) ((s.getD j x0).x.c2), .slice ((s.getD j x0).x.a3) ((s.getD j x0).t.wr.length) ((s.getD j x0).x.c3), .slice ((s.getD j x0).x.a4) ((s.getD j x0).t.marks.length) ((s.getD j x0).x.c4), .int .i64 ((s.getD j x0).t.state)]) hs_1 (fun _ _ => List.not_mem_nil) rfl Tryz.isAgg61 Tryz.sizeOf61 (flat_take encX_len x0 s j (by omega)) rfl (by decide)) ?_
    refine JL.op rfl (JO.call [] Tryz.call59 rfl (Z_specl17Copy (s.getD j x0) (hl _ (getD_mem (show j < s.length by omega)))) rfl (fun w hw => hw.seeOutA hi_11 nMA)) ?_
    rintro _ _ ⟨_, ⟨y_17, hy_18, rfl, rfl⟩, rfl⟩
    refine JL.op rfl (JO.buildSlice (ps := [(0, .agg #[.int .i64 y_17.t.id, .int .i64 y_17.t.age, .int .i64 y_17.t.proc, .int .i64 y_17.t.began, .slice y_17.x.a0 y_17.t.calls.length y_17.x.c0, .slice y_17.x.a1 y_17.t.ans.length y_17.x.c1, .slice y_17.x.a2 y_17.t.rd.length y_17.x.c2, .slice y_17.x.a3 y_17.t.wr.length y_17.x.c3, .slice y_17.x.a4 y_17.t.marks.length y_17.x.c4, .int .i64 y_17.t.state])]) (cur := #[.int .i64 y_17.t.id, .int .i64 y_17.t.age, .int .i64 y_17.t.proc, .int .i64 y_17.t.began, .slice y_17.x.a0 y_17.t.calls.length y_17.x.c0, .slice y_17.x.a1 y_17.t.ans.length y_17.x.c1, .slice y_17.x.a2 y_17.t.rd.length y_17.x.c2, .slice y_17.x.a3 y_17.t.wr.length y_17.x.c3, .slice y_17.x.a4 y_17.t.marks.length y_17.x.c4, .int .i64 y_17.t.state]) Tryz.underlying35 Tryz.sizeOf61 Tryz.zeroValue61 rfl (by kernel_rfl) (by decide) (by decide)) ?_
    rintro _ _ ⟨a_19, rfl, rfl⟩
    refine JL.op rfl (JO.append' 3 (q := 1) (news := ([y_17] : List TX).flatMap encX) (n' := (y ++ ([y_17] : List TX)).length) (cs' := (y ++ ([y_17] : List TX)).flatMap encX) rfl Tryz.underlying35 Tryz.underlying35 Tryz.typeInfo61 rfl (by' := 160) rfl rfl rfl rfl rfl (fun w hw => Src.sees (hw.see (i := 0) rfl) (oneX _)) (by (try simp only [List.length_append, List.length_cons, List.length_nil, List.length_take, List.length_drop]); omega) (by (try simp only [List.length_append, List.length_cons, List.length_nil, List.length_take, List.length_drop]); omega) (by simp only [List.length_append, List.length_take, List.length_drop, List.length_cons, List.length_nil] <;> first | rfl | omega) (by simp only [List.flatMap_append])) ?_
    rintro _ _ ⟨a_20, c_21, rfl, rfl⟩
    refine JL.pure rfl (PO.assign (v := .slice a_20 ((y ++ ([y_17] : List TX)).length) c_21) rfl) ?_
    refine JL.nil ?_
    refine JQ.blockN ?_
    refine JQ.seq ?_
    refine JC.region ?_
    refine JL.pure rfl (PO.move (v := .int .i64 ((j : Nat) : Int)) he_8) ?_
    refine JL.pure rfl (PO.add (c := ((j + 1 : Nat) : Int)) rfl rfl (wr (by omega))) ?_
    refine JL.pure rfl (PO.assign (v := .int .i64 ((j + 1 : Nat) : Int)) rfl) ?_
    refine JL.nil ?_
    refine JQ.ghost (L' := [Res.rows ((y ++ [y_17]).flatMap rdsX), Res.row (.slice a_19 1 1) 61 10 1 (([y_17] : List TX).flatMap encX), Res.row (.slice a_20 ((y ++ ([y_17] : List TX)).length) c_21) 61 10 ((y ++ ([y_17] : List TX)).length) ((y ++ ([y_17] : List TX)).flatMap encX)]) (fun w hw => hw.addR [2, 1] rfl flatMap_snoc) ?_
    refine JQ.pick [0, 1] (A := [Res.rows ((y ++ [y_17]).flatMap rdsX), Res.row (.slice a_20 ((y ++ ([y_17] : List TX)).length) c_21) 61 10 ((y ++ [y_17]).length) ((y ++ [y_17]).flatMap encX)]) rfl ?_
    refine JQ.again (s.length - (j + 1)) (by omega) ⟨j + 1, a_20, c_21, (y ++ [y_17]), by omega, (map_take_succ x0 hd hlt hy_18), (by rw [List.length_append, hyl]; rfl), he_5, he_6, rfl, rfl, rfl, rfl⟩
  · skip
    refine JC.condF (congrArg Value.bool (decide_eq_false h_9)) ?_
    refine JC.exit ?_
    refine JQ.thenExit ?_
    refine JQ.thenExit ?_
    refine JQ.blockE ?_
    refine JQ.seq ?_
    refine JC.seq ?_
    refine JC.region ?_
    refine JL.pure rfl (PO.move (v := .slice ya y.length yc) he_7) ?_
    refine JL.pure rfl (PO.assign (v := .slice ya y.length yc) rfl) ?_
    refine JL.nil ?_
    refine JQ.seq ?_
    refine JC.ret ?_
    refine JQ.ghost (L' := [Res.rows (rdsXS ya yc y)]) (fun w hw => hw.consR (r := ⟨.slice ya y.length yc, 61, 10, y.length, y.flatMap encX⟩) (A := y.flatMap rdsX) [1, 0] rfl) ?_
    refine Done.one (.inl rfl) rfl (RV.tmp (v := .slice ya y.length yc) rfl) (List.Sublist.refl _) ?_
    exact ⟨_, _, y, map_all hd (by omega), rfl, rfl⟩

set_option maxRecDepth 4000 in
set_option maxHeartbeats 1000000 in
theorem Z_entriesCopy (a : Option Addr) (c : Nat) (s : List EX) (hn : s.length ≤ 1000000000) (hl : ∀ q ∈ s, q.t.lim 1000000000) :
    Ct Tryz.prog 97 [.slice a s.length c] [] (fun w => SeesA w (rdsES a c s)) (fun r A' => ∃ a' c' y, y.map EX.t = s.map EX.t ∧ r = .slice a' y.length c' ∧ A' = [.rows (rdsES a' c' y)]) := by
  refine Ct.intro Tryz.func97 rfl Tryz.ntmps97 (Nat.le_of_ble_eq_true rfl) fun w0 hpre => ?_
  have hs_1 : Sees w0 (.slice a s.length c) 8 s.length (s.flatMap encE) := (hpre).head
  have hi_2 : SeesA w0 (s.flatMap rdsE) := (hpre).tail
  refine JC.seq ?_
  refine JC.region ?_
  refine JL.pure rfl (PO.assign (v := .slice none 0 0) rfl) ?_
  refine JL.nil ?_
  refine JQ.seq ?_
  refine JC.seq ?_
  refine JC.region ?_
  refine JL.pure rfl (PO.move (v := .slice a s.length c) rfl) ?_
  refine JL.op rfl (JO.call [] Tryz.call141 rfl (Z_cloneE a c s (by omega)) rfl (fun w hw => hw.seeOut_ hs_1 (fun _ _ => List.not_mem_nil))) ?_
  rintro _ _ ⟨_, ⟨a_3, c_4, rfl, rfl⟩, rfl⟩
  refine JL.pure rfl (PO.assign (v := .slice a_3 s.length c_4) rfl) ?_
  refine JL.nil ?_
  refine JQ.seq ?_
  refine JC.seq ?_
  refine JC.seq ?_
  refine JC.region ?_
  refine JL.pure rfl (PO.move (v := .slice a_3 s.length c_4) rfl) ?_
  refine JL.pure rfl (PO.lenV Tryz.underlying40 rfl) ?_
  refine JL.pure rfl (PO.move (v := .int .i64 0) rfl) ?_
  refine JL.nil ?_
  refine JQ.seq ?_
  refine JC.block ?_
  refine JC.ghost (L' := [Res.rows (([] : List EX).flatMap rdsE), Res.row (.slice a_3 s.length c_4) 129 8 s.length (s.flatMap encE)]) (fun w hw => hw.nilR (α := EX) (f := rdsE) [0] (B := [Res.row (.slice a_3 s.length c_4) 129 8 s.length (s.flatMap encE)]) (F := []) rfl) ?_
  refine JC.loop (fun k_ e_ L_ => ∃ j : Nat, ∃ y : List EX, (j ≤ s.length) ∧ (y.map EX.t = (s.take j).map EX.t) ∧ (y.length = j) ∧ e_ 2 = .slice none 0 0 ∧ e_ 3 = .slice a_3 s.length c_4 ∧ e_ 8 = .int .i64 ((s.length : Nat) : Int) ∧ e_ 9 = .int .i64 ((j : Nat) : Int) ∧ L_ = [Res.rows (y.flatMap rdsE), Res.row (.slice a_3 s.length c_4) 129 8 s.length ((y ++ s.drop j).flatMap encE)] ∧ k_ = s.length - j) _ ⟨0, [], by omega, rfl, rfl, rfl, rfl, rfl, rfl, rfl, rfl⟩ ?_
  rintro _ e_5 _ ⟨j, y, hj, hd, hyl, he_6, he_7, he_8, he_9, rfl, rfl⟩
  refine JC.seq ?_
  refine JC.region ?_
  refine JL.pure rfl (PO.lss he_9 he_8) ?_
  refine JL.nil ?_
  refine JQ.seq ?_
  refine JC.seq ?_
  by_cases h_10 : ((j : Nat) : Int) < ((s.length : Nat) : Int)
  · skip
    have hlt : j < s.length := by omega
    refine JC.ghost (L' := [Res.row (.slice a_3 s.length c_4) 129 8 s.length (mid encE y [.int .i64 ((s.getD j e0).t.seq), .int .i64 ((s.getD j e0).t.kind), .int .i64 ((s.getD j e0).t.tx), .slice ((s.getD j e0).x.a0) ((s.getD j e0).t.steps.length) ((s.getD j e0).x.c0), .slice ((s.getD j e0).x.a1) ((s.getD j e0).t.ans.length) ((s.getD j e0).x.c1), .int .i64 ((s.getD j e0).t.began), .int .i64 ((s.getD j e0).t.ended), .bool ((s.getD j e0).t.laid)] (s.drop (j + 1))), Res.rows (y.flatMap rdsE)]) (fun w hw => hw.midR 1 rfl e0 hlt) ?_
    have hi_11 := SeesA.elem hi_2 e0 hlt
    obtain ⟨hs_12, hs_13⟩ := seesE hi_11
    obtain ⟨hb_14, hb_15⟩ : (s.getD j e0).t.lim 1000000000 := (hl _ (getD_mem (show j < s.length by omega)))
    refine JC.condT (congrArg Value.bool (decide_eq_true h_10)) ?_
    refine JC.skip ?_
    refine JQ.seq ?_
    refine JC.seq ?_
    refine JC.block ?_
    refine JC.seq ?_
    refine JC.region ?_
    refine JL.pure rfl (PO.move (v := .int .i64 ((j : Nat) : Int)) he_9) ?_
    refine JL.pure rfl (PO.assign (v := .int .i64 ((j : Nat) : Int)) rfl) ?_
    refine JL.nil ?_
    refine JQ.seq ?_
    refine JC.regionA [Res.row (.slice a_3 s.length c_4) 129 8 s.length (mid encE y [.int .i64 ((s.getD j e0).t.seq), .int .i64 ((s.getD j e0).t.kind), .int .i64 ((s.getD j e0).t.tx), .slice ((s.getD j e0).x.a0) ((s.getD j e0).t.steps.length) ((s.getD j e0).x.c0), .slice ((s.getD j e0).x.a1) ((s.getD j e0).t.ans.length) ((s.getD j e0).x.c1), .int .i64 ((s.getD j e0).t.began), .int .i64 ((s.getD j e0).t.ended), .bool ((s.getD j e0).t.laid)] (s.drop (j + 1))), Res.rows (y.flatMap rdsE)] 16 mixed (by simp) ?_
    refine JA.takeP 0 rfl (by kernel_rfl) (NP.bl (NP.th (NP.th (NP.bl (NP.th NP.body))))) (by kernel_rfl) (by kernel_rfl) rfl (PO.move (v := .slice a_3 s.length c_4) he_7) ?_
    refine JA.takeP 1 rfl (by kernel_rfl) (NP.bl (NP.th (NP.th (NP.bl (NP.th NP.body))))) (by kernel_rfl) (by kernel_rfl) rfl (PO.move (v := .int .i64 ((j : Nat) : Int)) rfl) ?_
    refine JA.takeP 2 rfl (by kernel_rfl) (NP.bl (NP.th (NP.th (NP.bl (NP.th NP.body))))) (by kernel_rfl) (by kernel_rfl) rfl (PO.move (v := .slice a_3 s.length c_4) he_7) ?_
    refine JA.takeP 3 rfl (by kernel_rfl) (NP.bl (NP.th (NP.th (NP.bl (NP.th NP.body))))) (by kernel_rfl) (by kernel_rfl) rfl (PO.move (v := .int .i64 ((j : Nat) : Int)) rfl) ?_
    refine JA.takeP 4 rfl (by kernel_rfl) (NP.bl (NP.th (NP.th (NP.bl (NP.th NP.body))))) (by kernel_rfl) (by kernel_rfl) rfl (PO.move (v := .slice a_3 s.length c_4) he_7) ?_
    refine JA.takeP 5 rfl (by kernel_rfl) (NP.bl (NP.th (NP.th (NP.bl (NP.th NP.body))))) (by kernel_rfl) (by kernel_rfl) rfl (PO.move (v := .int .i64 ((j : Nat) : Int)) rfl) ?_
    refine JA.facts fun hst => ?_
    obtain ⟨hr_16, hr_16b, -⟩ := row_some 0 rfl (by omega) hst
    refine JA.takeP 6 rfl (by kernel_rfl) (NP.bl (NP.th (NP.th (NP.bl (NP.th NP.body))))) (by kernel_rfl) (by kernel_rfl) rfl (PO.indexAddrV (i := j) Tryz.underlying40 Tryz.sizeOf129 hr_16 hr_16b rfl rfl (by omega)) ?_
    refine JA.takeP 7 rfl (by kernel_rfl) (NP.bl (NP.th (NP.th (NP.bl (NP.th NP.body))))) (by kernel_rfl) (by kernel_rfl) rfl (PO.fieldAddrE fo129_3 hr_16 rfl) ?_
    refine JA.take 8 rfl (by kernel_rfl) (NP.bl (NP.th (NP.th (NP.bl (NP.th NP.body))))) (by kernel_rfl) (by kernel_rfl) (by kernel_rfl) rfl (LO.loadR1 0 (v := .slice ((s.getD j e0).x.a0) ((s.getD j e0).t.steps.length) ((s.getD j e0).x.c0)) rfl rfl Tryz.isAgg127 (mid_at encE_len rfl hyl 3 (by decide))) ?_
    refine JA.takeP 10 rfl (by kernel_rfl) (NP.bl (NP.th (NP.th (NP.bl (NP.th NP.body))))) (by kernel_rfl) (by kernel_rfl) rfl (PO.move (v := .slice a_3 s.length c_4) he_7) ?_
    refine JA.takeP 11 rfl (by kernel_rfl) (NP.bl (NP.th (NP.th (NP.bl (NP.th NP.body))))) (by kernel_rfl) (by kernel_rfl) rfl (PO.move (v := .int .i64 ((j : Nat) : Int)) rfl) ?_
    refine JA.takeP 12 rfl (by kernel_rfl) (NP.bl (NP.th (NP.th (NP.bl (NP.th NP.body))))) (by kernel_rfl) (by kernel_rfl) rfl (PO.indexAddrV (i := j) Tryz.underlying40 Tryz.sizeOf129 hr_16 hr_16b rfl rfl (by omega)) ?_
    refine JA.takeP 13 rfl (by kernel_rfl) (NP.bl (NP.th (NP.th (NP.bl (NP.th NP.body))))) (by kernel_rfl) (by kernel_rfl) rfl (PO.fieldAddrE fo129_4 hr_16 rfl) ?_
    refine JA.take 14 rfl (by kernel_rfl) (NP.bl (NP.th (NP.th (NP.bl (NP.th NP.body))))) (by kernel_rfl) (by kernel_rfl) (by kernel_rfl) rfl (LO.loadR1 0 (v := .slice ((s.getD j e0).x.a1) ((s.getD j e0).t.ans.length) ((s.getD j e0).x.c1)) rfl rfl Tryz.isAgg58 (mid_at encE_len rfl hyl 4 (by decide))) ?_
    refine JA.one (i := 9) (by kernel_rfl) ?_
    refine JX.op rfl rfl (JO.call [] Tryz.call142 rfl (Z_cloneP (s.getD j e0).x.a0 ((s.getD j e0).x.c0) ((s.getD j e0).t.steps) (by omega)) rfl (fun w hw => hw.seeOut_ hs_12 (fun _ _ => List.not_mem_nil))) ?_
    rintro _ _ ⟨_, ⟨a_29, c_30, rfl, rfl⟩, rfl⟩
    refine ⟨by simp, ?_⟩
    refine JA.one (i := 15) (by kernel_rfl) ?_
    refine JX.op rfl rfl (JO.call [] Tryz.call117 rfl (Z_cloneA (s.getD j e0).x.a1 ((s.getD j e0).x.c1) ((s.getD j e0).t.ans) (by omega)) rfl (fun w hw => hw.seeOut_ hs_13 (fun _ _ => List.not_mem_nil))) ?_
    rintro _ _ ⟨_, ⟨a_33, c_34, rfl, rfl⟩, rfl⟩
    refine ⟨by simp, ?_⟩
    refine JA.takeP 16 rfl (by kernel_rfl) (NP.bl (NP.th (NP.th (NP.bl (NP.th NP.body))))) (by kernel_rfl) (by kernel_rfl) rfl (PO.indexAddrV (i := j) Tryz.underlying40 Tryz.sizeOf129 hr_16 hr_16b rfl rfl (by omega)) ?_
    refine JA.takeP 17 rfl (by kernel_rfl) (NP.bl (NP.th (NP.th (NP.bl (NP.th NP.body))))) (by kernel_rfl) (by kernel_rfl) rfl (PO.fieldAddrE fo129_3 hr_16 rfl) ?_
    refine JA.one (i := 18) (by kernel_rfl) ?_
    refine JX.late rfl rfl (by decide) (by kernel_rfl) (JO.storeR 2 (vs := [.slice a_29 (((s.getD j e0).t.steps).length) c_30]) (cs' := mid encE y [.int .i64 ((s.getD j e0).t.seq), .int .i64 ((s.getD j e0).t.kind), .int .i64 ((s.getD j e0).t.tx), .slice a_29 (((s.getD j e0).t.steps).length) c_30, .slice ((s.getD j e0).x.a1) ((s.getD j e0).t.ans.length) ((s.getD j e0).x.c1), .int .i64 ((s.getD j e0).t.began), .int .i64 ((s.getD j e0).t.ended), .bool ((s.getD j e0).t.laid)] (s.drop (j + 1))) rfl rfl rfl rfl Tryz.sizeOf127 rfl rfl (by decide) (mid_fit encE_len rfl hyl (f := 3) (lb rfl)) (mid_set encE_len rfl hyl 3 [.slice a_29 (((s.getD j e0).t.steps).length) c_30] (lb rfl))) ?_
    rintro _ _ rfl
    refine JA.takeP 19 rfl (by kernel_rfl) (NP.bl (NP.th (NP.th (NP.bl (NP.th NP.body))))) (by kernel_rfl) (by kernel_rfl) rfl (PO.indexAddrV (i := j) Tryz.underlying40 Tryz.sizeOf129 hr_16 hr_16b rfl rfl (by omega)) ?_
    refine JA.takeP 20 rfl (by kernel_rfl) (NP.bl (NP.th (NP.th (NP.bl (NP.th NP.body))))) (by kernel_rfl) (by kernel_rfl) rfl (PO.fieldAddrE fo129_4 hr_16 rfl) ?_
    refine JA.one (i := 21) (by kernel_rfl) ?_
    refine JX.last rfl rfl (by decide) (by kernel_rfl) (JO.storeR 2 (vs := [.slice a_33 (((s.getD j e0).t.ans).length) c_34]) (cs' := mid encE y [.int .i64 ((s.getD j e0).t.seq), .int .i64 ((s.getD j e0).t.kind), .int .i64 ((s.getD j e0).t.tx), .slice a_29 (((s.getD j e0).t.steps).length) c_30, .slice a_33 (((s.getD j e0).t.ans).length) c_34, .int .i64 ((s.getD j e0).t.began), .int .i64 ((s.getD j e0).t.ended), .bool ((s.getD j e0).t.laid)] (s.drop (j + 1))) rfl rfl rfl rfl Tryz.sizeOf58 rfl rfl (by decide) (mid_fit encE_len rfl hyl (f := 4) (lb rfl)) (mid_set encE_len rfl hyl 4 [.slice a_33 (((s.getD j e0).t.ans).length) c_34] (lb rfl))) ?_
    rintro _ _ rfl
    refine JQ.blockN ?_
    refine JQ.seq ?_
    refine JC.region ?_
    refine JL.pure rfl (PO.add (c := ((j + 1 : Nat) : Int)) he_9 rfl (wr (by omega))) ?_
    refine JL.pure rfl (PO.move (v := .int .i64 ((j + 1 : Nat) : Int)) rfl) ?_
    refine JL.nil ?_
    refine JQ.ghost (L' := [Res.rows (rdsE (⟨⟨a_29, c_30, a_33, c_34⟩, (s.getD j e0).t⟩ : EX)), Res.row (.slice a_3 s.length c_4) 129 8 s.length (mid encE y [.int .i64 ((s.getD j e0).t.seq), .int .i64 ((s.getD j e0).t.kind), .int .i64 ((s.getD j e0).t.tx), .slice a_29 (((s.getD j e0).t.steps).length) c_30, .slice a_33 (((s.getD j e0).t.ans).length) c_34, .int .i64 ((s.getD j e0).t.began), .int .i64 ((s.getD j e0).t.ended), .bool ((s.getD j e0).t.laid)] (s.drop (j + 1))), Res.rows (y.flatMap rdsE)]) (fun w hw => hw.closeR (A := rdsE (⟨⟨a_29, c_30, a_33, c_34⟩, (s.getD j e0).t⟩ : EX)) [1, 0] rfl) ?_
    refine JQ.ghost (L' := [Res.rows ((y ++ [(⟨⟨a_29, c_30, a_33, c_34⟩, (s.getD j e0).t⟩ : EX)]).flatMap rdsE), Res.row (.slice a_3 s.length c_4) 129 8 s.length (((y ++ [(⟨⟨a_29, c_30, a_33, c_34⟩, (s.getD j e0).t⟩ : EX)]) ++ s.drop (j + 1)).flatMap encE)]) (fun w hw => St.addR [2, 1] rfl flatMap_snoc (hw.unmid 1 rfl (q := (⟨⟨a_29, c_30, a_33, c_34⟩, (s.getD j e0).t⟩ : EX)) rfl)) ?_
    refine JQ.pick [0, 0] (A := [Res.rows ((y ++ [(⟨⟨a_29, c_30, a_33, c_34⟩, (s.getD j e0).t⟩ : EX)]).flatMap rdsE), Res.row (.slice a_3 s.length c_4) 129 8 s.length (((y ++ [(⟨⟨a_29, c_30, a_33, c_34⟩, (s.getD j e0).t⟩ : EX)]) ++ s.drop (j + 1)).flatMap encE)]) rfl ?_
    refine JQ.again (s.length - (j + 1)) (by omega) ⟨j + 1, (y ++ [(⟨⟨a_29, c_30, a_33, c_34⟩, (s.getD j e0).t⟩ : EX)]), by omega, (map_take_succ e0 hd hlt rfl), (by rw [List.length_append, hyl]; rfl), he_6, he_7, he_8, rfl, rfl, rfl⟩
  · skip
    refine JC.condF (congrArg Value.bool (decide_eq_false h_10)) ?_
    refine JC.exit ?_
    refine JQ.thenExit ?_
    refine JQ.thenExit ?_
    refine JQ.blockE ?_
    refine JQ.seq ?_
    refine JC.seq ?_
    refine JC.region ?_
    refine JL.pure rfl (PO.move (v := .slice a_3 s.length c_4) he_7) ?_
    refine JL.pure rfl (PO.assign (v := .slice a_3 s.length c_4) rfl) ?_
    refine JL.nil ?_
    refine JQ.seq ?_
    refine JC.ret ?_
    have hsl : s.length = y.length := by omega
    refine JQ.ghost (L' := [Res.rows (y.flatMap rdsE), Res.row (.slice a_3 y.length c_4) 129 8 y.length (y.flatMap encE)]) (fun w hw => hw.eqL (by rw [List.drop_of_length_le (by omega), List.append_nil, hsl] <;> rfl)) ?_
    refine JQ.ghost (L' := [Res.rows (rdsES a_3 c_4 y)]) (fun w hw => hw.consR (r := ⟨.slice a_3 y.length c_4, 129, 8, y.length, y.flatMap encE⟩) (A := y.flatMap rdsE) [1, 0] rfl) ?_
    refine Done.one (.inl rfl) rfl (RV.tmp (v := .slice a_3 s.length c_4) rfl) (List.Sublist.refl _) ?_
    exact ⟨_, _, y, map_all hd (by omega), by rw [hsl], rfl⟩

set_option maxRecDepth 4000 in
set_option maxHeartbeats 1000000 in
theorem Z_implDiskclone (d : DX) (hl : d.dat.lim 1000000000) :
    Ct Tryz.prog 95 [.agg #[.slice d.a d.l.length d.c, str d.jt, .int .i64 d.js]] [] (fun w => SeesA w (rdsD d)) (fun v A' => ∃ y : DX, y.dat = d.dat ∧ v = .agg #[.slice y.a y.l.length y.c, str y.jt, .int .i64 y.js] ∧ A' = [.rows (rdsD y)]) := by
  refine Ct.intro Tryz.func95 rfl Tryz.ntmps95 (Nat.le_of_ble_eq_true rfl) fun w0 hpre => ?_
  have hs_1 : Sees w0 (.slice d.a d.l.length d.c) 3 d.l.length (d.l.flatMap encO) := (hpre).head
  have hi_2 : SeesA w0 (d.l.flatMap rdsO) := (hpre).tail
  have hlm : d.l.length ≤ 1000000000 ∧ ∀ q ∈ d.l, q.t.lim 1000000000 := ⟨by have := hl.l0; simpa only [DX.dat, List.length_map] using this, fun q hq => hl.l1 _ (List.mem_map_of_mem hq)⟩
  have hlm0 := hlm.1
  refine JC.seq ?_
  refine JC.region ?_
  refine JL.op rfl (JO.box (cs := [.slice d.a d.l.length d.c, str d.jt, .int .i64 d.js]) rfl rfl) ?_
  rintro _ _ ⟨b_3, rfl, rfl⟩
  refine JL.op rfl (JO.alloc (z := .agg #[.slice none 0 0, str [], .int .i64 0]) (cs := [.slice none 0 0, str [], .int .i64 0]) Tryz.zeroValue39 rfl) ?_
  rintro _ _ ⟨b_4, rfl, rfl⟩
  refine JL.nil ?_
  refine JQ.seq ?_
  refine JC.seq ?_
  refine JC.regionA [bk b_4 39 [.slice none 0 0, str [], .int .i64 0], bk b_3 39 [.slice d.a d.l.length d.c, str d.jt, .int .i64 d.js]] 7 mixed (by simp) ?_
  refine JA.takeP 0 rfl (by kernel_rfl) (NP.th NP.body) (by kernel_rfl) (by kernel_rfl) rfl (PO.fieldAddr fo39_0 rfl) ?_
  refine JA.take 1 rfl (by kernel_rfl) (NP.th NP.body) (by kernel_rfl) (by kernel_rfl) (by kernel_rfl) rfl (LO.load1 1 (v := .slice d.a d.l.length d.c) rfl rfl Tryz.isAgg36 rfl) ?_
  refine JA.takeP 3 rfl (by kernel_rfl) (NP.th NP.body) (by kernel_rfl) (by kernel_rfl) rfl (PO.fieldAddr fo39_1 rfl) ?_
  refine JA.take 4 rfl (by kernel_rfl) (NP.th NP.body) (by kernel_rfl) (by kernel_rfl) (by kernel_rfl) rfl (LO.loadK 1 (vs := [str d.jt, .int .i64 d.js]) rfl rfl Tryz.isAgg37 Tryz.sizeOf37 rfl rfl) ?_
  refine JA.two (i := 2) (j := 6) (by kernel_rfl) ?_ ?_
  · skip
    refine JX.op rfl rfl (JO.call [] Tryz.call140 rfl (Z_cloneO d.a d.c d.l (by omega)) rfl (fun w hw => hw.seeOut_ hs_1 (fun _ _ => List.not_mem_nil))) ?_
    rintro _ _ ⟨_, ⟨a_12, c_13, rfl, rfl⟩, rfl⟩
    refine ⟨by simp, ?_⟩
    refine JA.takeP 5 rfl (by kernel_rfl) (NP.th NP.body) (by kernel_rfl) (by kernel_rfl) rfl (PO.build (ps := [(0, .slice a_12 d.l.length c_13), (1, .agg #[str d.jt, .int .i64 d.js])]) (cs := [.slice a_12 d.l.length c_13, str d.jt, .int .i64 d.js]) rfl (by kernel_rfl)) ?_
    refine JA.one (i := 6) (by kernel_rfl) ?_
    refine JX.op rfl rfl (JO.alloc (z := .agg #[.slice none 0 0, str [], .int .i64 0]) (cs := [.slice none 0 0, str [], .int .i64 0]) Tryz.zeroValue39 rfl) ?_
    rintro _ _ ⟨b_15, rfl, rfl⟩
    refine ⟨by simp, ?_⟩
    refine JA.one (i := 7) (by kernel_rfl) ?_
    refine JX.last rfl rfl (by decide) (by kernel_rfl) (JO.store 0 (vs := [.slice a_12 d.l.length c_13, str d.jt, .int .i64 d.js]) (cs' := [.slice a_12 d.l.length c_13, str d.jt, .int .i64 d.js]) rfl rfl rfl rfl Tryz.sizeOf39 rfl rfl (Nat.le_of_ble_eq_true rfl) rfl) ?_
    rintro _ _ rfl
    refine JQ.seq ?_
    refine JC.seq ?_
    refine JC.seq ?_
    refine JC.region ?_
    refine JL.pure rfl (PO.fieldAddr fo39_0 rfl) ?_
    refine JL.ld rfl (LO.load1 0 (v := .slice a_12 d.l.length c_13) rfl rfl Tryz.isAgg36 rfl) ?_
    refine JL.pure rfl (PO.lenV Tryz.underlying36 rfl) ?_
    refine JL.pure rfl (PO.move (v := .int .i64 0) rfl) ?_
    refine JL.nil ?_
    refine JQ.seq ?_
    refine JC.block ?_
    refine JC.ghost (L' := [Res.rows (([] : List OX).flatMap rdsO), Res.row (.slice a_12 d.l.length c_13) 173 3 d.l.length (d.l.flatMap encO), bk b_15 39 [.slice a_12 d.l.length c_13, str d.jt, .int .i64 d.js], bk b_4 39 [.slice none 0 0, str [], .int .i64 0], bk b_3 39 [.slice d.a d.l.length d.c, str d.jt, .int .i64 d.js]]) (fun w hw => hw.nilR (α := OX) (f := rdsO) [1] (B := [Res.row (.slice a_12 d.l.length c_13) 173 3 d.l.length (d.l.flatMap encO)]) (F := [bk b_15 39 [.slice a_12 d.l.length c_13, str d.jt, .int .i64 d.js], bk b_4 39 [.slice none 0 0, str [], .int .i64 0], bk b_3 39 [.slice d.a d.l.length d.c, str d.jt, .int .i64 d.js]]) rfl) ?_
    refine JC.loop (fun k_ e_ L_ => ∃ j : Nat, ∃ y : List OX, (j ≤ d.l.length) ∧ (y.map OX.t = (d.l.take j).map OX.t) ∧ (y.length = j) ∧ e_ 2 = .pointer (some ⟨b_4, 0, none⟩) ∧ e_ 3 = .pointer (some ⟨b_15, 0, none⟩) ∧ e_ 13 = .int .i64 ((d.l.length : Nat) : Int) ∧ e_ 14 = .int .i64 ((j : Nat) : Int) ∧ L_ = [Res.rows (y.flatMap rdsO), Res.row (.slice a_12 d.l.length c_13) 173 3 d.l.length ((y ++ d.l.drop j).flatMap encO), bk b_15 39 [.slice a_12 d.l.length c_13, str d.jt, .int .i64 d.js], bk b_4 39 [.slice none 0 0, str [], .int .i64 0], bk b_3 39 [.slice d.a d.l.length d.c, str d.jt, .int .i64 d.js]] ∧ k_ = d.l.length - j) _ ⟨0, [], by omega, rfl, rfl, rfl, rfl, rfl, rfl, rfl, rfl⟩ ?_
    rintro _ e_16 _ ⟨j, y, hj, hd, hyl, he_17, he_18, he_19, he_20, rfl, rfl⟩
    refine JC.seq ?_
    refine JC.region ?_
    refine JL.pure rfl (PO.lss he_20 he_19) ?_
    refine JL.nil ?_
    refine JQ.seq ?_
    refine JC.seq ?_
    by_cases h_21 : ((j : Nat) : Int) < ((d.l.length : Nat) : Int)
    · skip
      have hlt : j < d.l.length := by omega
      refine JC.ghost (L' := [Res.row (.slice a_12 d.l.length c_13) 173 3 d.l.length (mid encO y [.int .i64 ((d.l.getD j o0).t.seq), .slice ((d.l.getD j o0).x.a0) ((d.l.getD j o0).t.cells.length) ((d.l.getD j o0).x.c0), .bool ((d.l.getD j o0).t.whole)] (d.l.drop (j + 1))), Res.rows (y.flatMap rdsO), bk b_15 39 [.slice a_12 d.l.length c_13, str d.jt, .int .i64 d.js], bk b_4 39 [.slice none 0 0, str [], .int .i64 0], bk b_3 39 [.slice d.a d.l.length d.c, str d.jt, .int .i64 d.js]]) (fun w hw => hw.midR 1 rfl o0 hlt) ?_
      have hi_22 := SeesA.elem hi_2 o0 hlt
      have hs_23 := seesO hi_22
      obtain ⟨hb_24⟩ : (d.l.getD j o0).t.lim 1000000000 := (hlm.2 _ (getD_mem (show j < d.l.length by omega)))
      refine JC.condT (congrArg Value.bool (decide_eq_true h_21)) ?_
      refine JC.skip ?_
      refine JQ.seq ?_
      refine JC.seq ?_
      refine JC.block ?_
      refine JC.seq ?_
      refine JC.region ?_
      refine JL.pure rfl (PO.move (v := .int .i64 ((j : Nat) : Int)) he_20) ?_
      refine JL.pure rfl (PO.assign (v := .int .i64 ((j : Nat) : Int)) rfl) ?_
      refine JL.nil ?_
      refine JQ.seq ?_
      refine JC.regionA [Res.row (.slice a_12 d.l.length c_13) 173 3 d.l.length (mid encO y [.int .i64 ((d.l.getD j o0).t.seq), .slice ((d.l.getD j o0).x.a0) ((d.l.getD j o0).t.cells.length) ((d.l.getD j o0).x.c0), .bool ((d.l.getD j o0).t.whole)] (d.l.drop (j + 1))), Res.rows (y.flatMap rdsO), bk b_15 39 [.slice a_12 d.l.length c_13, str d.jt, .int .i64 d.js], bk b_4 39 [.slice none 0 0, str [], .int .i64 0], bk b_3 39 [.slice d.a d.l.length d.c, str d.jt, .int .i64 d.js]] 10 mixed (by simp) ?_
      refine JA.takeP 0 rfl (by kernel_rfl) (NP.bl (NP.th (NP.th (NP.bl (NP.th NP.body))))) (by kernel_rfl) (by kernel_rfl) rfl (PO.fieldAddr fo39_0 he_18) ?_
      refine JA.take 1 rfl (by kernel_rfl) (NP.bl (NP.th (NP.th (NP.bl (NP.th NP.body))))) (by kernel_rfl) (by kernel_rfl) (by kernel_rfl) rfl (LO.load1 2 (v := .slice a_12 d.l.length c_13) rfl rfl Tryz.isAgg36 rfl) ?_
      refine JA.takeP 2 rfl (by kernel_rfl) (NP.bl (NP.th (NP.th (NP.bl (NP.th NP.body))))) (by kernel_rfl) (by kernel_rfl) rfl (PO.move (v := .int .i64 ((j : Nat) : Int)) rfl) ?_
      refine JA.takeP 3 rfl (by kernel_rfl) (NP.bl (NP.th (NP.th (NP.bl (NP.th NP.body))))) (by kernel_rfl) (by kernel_rfl) rfl (PO.fieldAddr fo39_0 he_18) ?_
      refine JA.take 4 rfl (by kernel_rfl) (NP.bl (NP.th (NP.th (NP.bl (NP.th NP.body))))) (by kernel_rfl) (by kernel_rfl) (by kernel_rfl) rfl (LO.load1 2 (v := .slice a_12 d.l.length c_13) rfl rfl Tryz.isAgg36 rfl) ?_
      refine JA.takeP 5 rfl (by kernel_rfl) (NP.bl (NP.th (NP.th (NP.bl (NP.th NP.body))))) (by kernel_rfl) (by kernel_rfl) rfl (PO.move (v := .int .i64 ((j : Nat) : Int)) rfl) ?_
      refine JA.facts fun hst => ?_
      obtain ⟨hr_25, hr_25b, -⟩ := row_some 0 rfl (by omega) hst
      refine JA.takeP 6 rfl (by kernel_rfl) (NP.bl (NP.th (NP.th (NP.bl (NP.th NP.body))))) (by kernel_rfl) (by kernel_rfl) rfl (PO.indexAddrV (i := j) Tryz.underlying36 Tryz.sizeOf173 hr_25 hr_25b rfl rfl (by omega)) ?_
      refine JA.takeP 7 rfl (by kernel_rfl) (NP.bl (NP.th (NP.th (NP.bl (NP.th NP.body))))) (by kernel_rfl) (by kernel_rfl) rfl (PO.fieldAddrE fo173_1 hr_25 rfl) ?_
      refine JA.take 8 rfl (by kernel_rfl) (NP.bl (NP.th (NP.th (NP.bl (NP.th NP.body))))) (by kernel_rfl) (by kernel_rfl) (by kernel_rfl) rfl (LO.loadR1 0 (v := .slice ((d.l.getD j o0).x.a0) ((d.l.getD j o0).t.cells.length) ((d.l.getD j o0).x.c0)) rfl rfl Tryz.isAgg34 (mid_at encO_len rfl hyl 1 (by decide))) ?_
      refine JA.one (i := 9) (by kernel_rfl) ?_
      refine JX.op rfl rfl (JO.call [] Tryz.call93 rfl (C_cloneC (d.l.getD j o0).x.a0 ((d.l.getD j o0).x.c0) ((d.l.getD j o0).t.cells) (by omega)) rfl (fun w hw => hw.seeOut_ hs_23 (fun _ _ => List.not_mem_nil))) ?_
      rintro _ _ ⟨_, ⟨a_28, c_29, rfl, rfl⟩, rfl⟩
      refine ⟨by simp, ?_⟩
      refine JA.takeP 10 rfl (by kernel_rfl) (NP.bl (NP.th (NP.th (NP.bl (NP.th NP.body))))) (by kernel_rfl) (by kernel_rfl) rfl (PO.indexAddrV (i := j) Tryz.underlying36 Tryz.sizeOf173 hr_25 hr_25b rfl rfl (by omega)) ?_
      refine JA.takeP 11 rfl (by kernel_rfl) (NP.bl (NP.th (NP.th (NP.bl (NP.th NP.body))))) (by kernel_rfl) (by kernel_rfl) rfl (PO.fieldAddrE fo173_1 hr_25 rfl) ?_
      refine JA.one (i := 12) (by kernel_rfl) ?_
      refine JX.last rfl rfl (by decide) (by kernel_rfl) (JO.storeR 1 (vs := [.slice a_28 (((d.l.getD j o0).t.cells).length) c_29]) (cs' := mid encO y [.int .i64 ((d.l.getD j o0).t.seq), .slice a_28 (((d.l.getD j o0).t.cells).length) c_29, .bool ((d.l.getD j o0).t.whole)] (d.l.drop (j + 1))) rfl rfl rfl rfl Tryz.sizeOf34 rfl rfl (by decide) (mid_fit encO_len rfl hyl (f := 1) (lb rfl)) (mid_set encO_len rfl hyl 1 [.slice a_28 (((d.l.getD j o0).t.cells).length) c_29] (lb rfl))) ?_
      rintro _ _ rfl
      refine JQ.blockN ?_
      refine JQ.seq ?_
      refine JC.region ?_
      refine JL.pure rfl (PO.add (c := ((j + 1 : Nat) : Int)) he_20 rfl (wr (by omega))) ?_
      refine JL.pure rfl (PO.move (v := .int .i64 ((j + 1 : Nat) : Int)) rfl) ?_
      refine JL.nil ?_
      refine JQ.ghost (L' := [Res.rows (rdsO (⟨⟨a_28, c_29⟩, (d.l.getD j o0).t⟩ : OX)), Res.row (.slice a_12 d.l.length c_13) 173 3 d.l.length (mid encO y [.int .i64 ((d.l.getD j o0).t.seq), .slice a_28 (((d.l.getD j o0).t.cells).length) c_29, .bool ((d.l.getD j o0).t.whole)] (d.l.drop (j + 1))), Res.rows (y.flatMap rdsO), bk b_15 39 [.slice a_12 d.l.length c_13, str d.jt, .int .i64 d.js], bk b_4 39 [.slice none 0 0, str [], .int .i64 0], bk b_3 39 [.slice d.a d.l.length d.c, str d.jt, .int .i64 d.js]]) (fun w hw => hw.closeR (A := rdsO (⟨⟨a_28, c_29⟩, (d.l.getD j o0).t⟩ : OX)) [0] rfl) ?_
      refine JQ.ghost (L' := [Res.rows ((y ++ [(⟨⟨a_28, c_29⟩, (d.l.getD j o0).t⟩ : OX)]).flatMap rdsO), Res.row (.slice a_12 d.l.length c_13) 173 3 d.l.length (((y ++ [(⟨⟨a_28, c_29⟩, (d.l.getD j o0).t⟩ : OX)]) ++ d.l.drop (j + 1)).flatMap encO), bk b_15 39 [.slice a_12 d.l.length c_13, str d.jt, .int .i64 d.js], bk b_4 39 [.slice none 0 0, str [], .int .i64 0], bk b_3 39 [.slice d.a d.l.length d.c, str d.jt, .int .i64 d.js]]) (fun w hw => St.addR [2, 1] rfl flatMap_snoc (hw.unmid 1 rfl (q := (⟨⟨a_28, c_29⟩, (d.l.getD j o0).t⟩ : OX)) rfl)) ?_
      refine JQ.pick [0, 0, 0, 0, 0] (A := [Res.rows ((y ++ [(⟨⟨a_28, c_29⟩, (d.l.getD j o0).t⟩ : OX)]).flatMap rdsO), Res.row (.slice a_12 d.l.length c_13) 173 3 d.l.length (((y ++ [(⟨⟨a_28, c_29⟩, (d.l.getD j o0).t⟩ : OX)]) ++ d.l.drop (j + 1)).flatMap encO), bk b_15 39 [.slice a_12 d.l.length c_13, str d.jt, .int .i64 d.js], bk b_4 39 [.slice none 0 0, str [], .int .i64 0], bk b_3 39 [.slice d.a d.l.length d.c, str d.jt, .int .i64 d.js]]) rfl ?_
      refine JQ.again (d.l.length - (j + 1)) (by omega) ⟨j + 1, (y ++ [(⟨⟨a_28, c_29⟩, (d.l.getD j o0).t⟩ : OX)]), by omega, (map_take_succ o0 hd hlt rfl), (by rw [List.length_append, hyl]; rfl), he_17, he_18, he_19, rfl, rfl, rfl⟩
    · skip
      refine JC.condF (congrArg Value.bool (decide_eq_false h_21)) ?_
      refine JC.exit ?_
      refine JQ.thenExit ?_
      refine JQ.thenExit ?_
      refine JQ.blockE ?_
      refine JQ.seq ?_
      refine JC.seq ?_
      refine JC.region ?_
      refine JL.ld rfl (LO.loadK 2 (vs := [.slice a_12 d.l.length c_13, str d.jt, .int .i64 d.js]) rfl he_18 Tryz.isAgg39 Tryz.sizeOf39 rfl rfl) ?_
      refine JL.op rfl (JO.store 3 (vs := [.slice a_12 d.l.length c_13, str d.jt, .int .i64 d.js]) (cs' := [.slice a_12 d.l.length c_13, str d.jt, .int .i64 d.js]) rfl he_17 rfl rfl Tryz.sizeOf39 rfl rfl (Nat.le_of_ble_eq_true rfl) rfl) ?_
      rintro _ _ rfl
      refine JL.nil ?_
      refine JQ.seq ?_
      refine JC.ret ?_
      have hsl : d.l.length = y.length := by omega
      refine JQ.ghost (L' := [Res.rows (y.flatMap rdsO), Res.row (.slice a_12 y.length c_13) 173 3 y.length (y.flatMap encO), bk b_15 39 [.slice a_12 d.l.length c_13, str d.jt, .int .i64 d.js], bk b_4 39 [.slice a_12 d.l.length c_13, str d.jt, .int .i64 d.js], bk b_3 39 [.slice d.a d.l.length d.c, str d.jt, .int .i64 d.js]]) (fun w hw => hw.eqL (by rw [List.drop_of_length_le (by omega), List.append_nil, hsl] <;> rfl)) ?_
      refine JQ.ghost (L' := [Res.rows (rdsOS a_12 c_13 y), bk b_15 39 [.slice a_12 d.l.length c_13, str d.jt, .int .i64 d.js], bk b_4 39 [.slice a_12 d.l.length c_13, str d.jt, .int .i64 d.js], bk b_3 39 [.slice d.a d.l.length d.c, str d.jt, .int .i64 d.js]]) (fun w hw => hw.consR (r := ⟨.slice a_12 y.length c_13, 173, 3, y.length, y.flatMap encO⟩) (A := y.flatMap rdsO) [1, 0] rfl) ?_
      refine Done.one (.inl rfl) rfl (RV.cell1 (LO.loadK 2 (vs := [.slice a_12 d.l.length c_13, str d.jt, .int .i64 d.js]) rfl he_17 Tryz.isAgg39 Tryz.sizeOf39 rfl rfl) ⟨_, he_17⟩) (List.sublist_append_left [Res.rows (rdsOS a_12 c_13 y)] [bk b_15 39 [.slice a_12 d.l.length c_13, str d.jt, .int .i64 d.js], bk b_4 39 [.slice a_12 d.l.length c_13, str d.jt, .int .i64 d.js], bk b_3 39 [.slice d.a d.l.length d.c, str d.jt, .int .i64 d.js]]) ?_
      have hda := map_all hd (show d.l.length ≤ j by omega)
      exact ⟨⟨a_12, c_13, y, d.jt, d.js⟩, by simp only [DX.dat, hda], by rw [hsl], rfl⟩
  · skip
    refine JX.op rfl rfl (JO.alloc (z := .agg #[.slice none 0 0, str [], .int .i64 0]) (cs := [.slice none 0 0, str [], .int .i64 0]) Tryz.zeroValue39 rfl) ?_
    rintro _ _ ⟨b_30, rfl, rfl⟩
    refine ⟨by simp, ?_⟩
    refine JA.one (i := 2) (by kernel_rfl) ?_
    refine JX.op rfl rfl (JO.call [] Tryz.call140 rfl (Z_cloneO d.a d.c d.l (by omega)) rfl (fun w hw => hw.seeOut_ hs_1 (fun _ _ => List.not_mem_nil))) ?_
    rintro _ _ ⟨_, ⟨a_33, c_34, rfl, rfl⟩, rfl⟩
    refine ⟨by simp, ?_⟩
    refine JA.takeP 5 rfl (by kernel_rfl) (NP.th NP.body) (by kernel_rfl) (by kernel_rfl) rfl (PO.build (ps := [(0, .slice a_33 d.l.length c_34), (1, .agg #[str d.jt, .int .i64 d.js])]) (cs := [.slice a_33 d.l.length c_34, str d.jt, .int .i64 d.js]) rfl (by kernel_rfl)) ?_
    refine JA.one (i := 7) (by kernel_rfl) ?_
    refine JX.last rfl rfl (by decide) (by kernel_rfl) (JO.store 1 (vs := [.slice a_33 d.l.length c_34, str d.jt, .int .i64 d.js]) (cs' := [.slice a_33 d.l.length c_34, str d.jt, .int .i64 d.js]) rfl rfl rfl rfl Tryz.sizeOf39 rfl rfl (Nat.le_of_ble_eq_true rfl) rfl) ?_
    rintro _ _ rfl
    refine JQ.seq ?_
    refine JC.seq ?_
    refine JC.seq ?_
    refine JC.region ?_
    refine JL.pure rfl (PO.fieldAddr fo39_0 rfl) ?_
    refine JL.ld rfl (LO.load1 1 (v := .slice a_33 d.l.length c_34) rfl rfl Tryz.isAgg36 rfl) ?_
    refine JL.pure rfl (PO.lenV Tryz.underlying36 rfl) ?_
    refine JL.pure rfl (PO.move (v := .int .i64 0) rfl) ?_
    refine JL.nil ?_
    refine JQ.seq ?_
    refine JC.block ?_
    refine JC.ghost (L' := [Res.rows (([] : List OX).flatMap rdsO), Res.row (.slice a_33 d.l.length c_34) 173 3 d.l.length (d.l.flatMap encO), bk b_30 39 [.slice a_33 d.l.length c_34, str d.jt, .int .i64 d.js], bk b_4 39 [.slice none 0 0, str [], .int .i64 0], bk b_3 39 [.slice d.a d.l.length d.c, str d.jt, .int .i64 d.js]]) (fun w hw => hw.nilR (α := OX) (f := rdsO) [0] (B := [Res.row (.slice a_33 d.l.length c_34) 173 3 d.l.length (d.l.flatMap encO)]) (F := [bk b_30 39 [.slice a_33 d.l.length c_34, str d.jt, .int .i64 d.js], bk b_4 39 [.slice none 0 0, str [], .int .i64 0], bk b_3 39 [.slice d.a d.l.length d.c, str d.jt, .int .i64 d.js]]) rfl) ?_
    refine JC.loop (fun k_ e_ L_ => ∃ j : Nat, ∃ y : List OX, (j ≤ d.l.length) ∧ (y.map OX.t = (d.l.take j).map OX.t) ∧ (y.length = j) ∧ e_ 2 = .pointer (some ⟨b_4, 0, none⟩) ∧ e_ 3 = .pointer (some ⟨b_30, 0, none⟩) ∧ e_ 13 = .int .i64 ((d.l.length : Nat) : Int) ∧ e_ 14 = .int .i64 ((j : Nat) : Int) ∧ L_ = [Res.rows (y.flatMap rdsO), Res.row (.slice a_33 d.l.length c_34) 173 3 d.l.length ((y ++ d.l.drop j).flatMap encO), bk b_30 39 [.slice a_33 d.l.length c_34, str d.jt, .int .i64 d.js], bk b_4 39 [.slice none 0 0, str [], .int .i64 0], bk b_3 39 [.slice d.a d.l.length d.c, str d.jt, .int .i64 d.js]] ∧ k_ = d.l.length - j) _ ⟨0, [], by omega, rfl, rfl, rfl, rfl, rfl, rfl, rfl, rfl⟩ ?_
    rintro _ e_35 _ ⟨j, y, hj, hd, hyl, he_36, he_37, he_38, he_39, rfl, rfl⟩
    refine JC.seq ?_
    refine JC.region ?_
    refine JL.pure rfl (PO.lss he_39 he_38) ?_
    refine JL.nil ?_
    refine JQ.seq ?_
    refine JC.seq ?_
    by_cases h_40 : ((j : Nat) : Int) < ((d.l.length : Nat) : Int)
    · skip
      have hlt : j < d.l.length := by omega
      refine JC.ghost (L' := [Res.row (.slice a_33 d.l.length c_34) 173 3 d.l.length (mid encO y [.int .i64 ((d.l.getD j o0).t.seq), .slice ((d.l.getD j o0).x.a0) ((d.l.getD j o0).t.cells.length) ((d.l.getD j o0).x.c0), .bool ((d.l.getD j o0).t.whole)] (d.l.drop (j + 1))), Res.rows (y.flatMap rdsO), bk b_30 39 [.slice a_33 d.l.length c_34, str d.jt, .int .i64 d.js], bk b_4 39 [.slice none 0 0, str [], .int .i64 0], bk b_3 39 [.slice d.a d.l.length d.c, str d.jt, .int .i64 d.js]]) (fun w hw => hw.midR 1 rfl o0 hlt) ?_
      have hi_41 := SeesA.elem hi_2 o0 hlt
      have hs_42 := seesO hi_41
      obtain ⟨hb_43⟩ : (d.l.getD j o0).t.lim 1000000000 := (hlm.2 _ (getD_mem (show j < d.l.length by omega)))
      refine JC.condT (congrArg Value.bool (decide_eq_true h_40)) ?_
      refine JC.skip ?_
      refine JQ.seq ?_
      refine JC.seq ?_
      refine JC.block ?_
      refine JC.seq ?_
      refine JC.region ?_
      refine JL.pure rfl (PO.move (v := .int .i64 ((j : Nat) : Int)) he_39) ?_
      refine JL.pure rfl (PO.assign (v := .int .i64 ((j : Nat) : Int)) rfl) ?_
      refine JL.nil ?_
      refine JQ.seq ?_
      refine JC.regionA [Res.row (.slice a_33 d.l.length c_34) 173 3 d.l.length (mid encO y [.int .i64 ((d.l.getD j o0).t.seq), .slice ((d.l.getD j o0).x.a0) ((d.l.getD j o0).t.cells.length) ((d.l.getD j o0).x.c0), .bool ((d.l.getD j o0).t.whole)] (d.l.drop (j + 1))), Res.rows (y.flatMap rdsO), bk b_30 39 [.slice a_33 d.l.length c_34, str d.jt, .int .i64 d.js], bk b_4 39 [.slice none 0 0, str [], .int .i64 0], bk b_3 39 [.slice d.a d.l.length d.c, str d.jt, .int .i64 d.js]] 10 mixed (by simp) ?_
      refine JA.takeP 0 rfl (by kernel_rfl) (NP.bl (NP.th (NP.th (NP.bl (NP.th NP.body))))) (by kernel_rfl) (by kernel_rfl) rfl (PO.fieldAddr fo39_0 he_37) ?_
      refine JA.take 1 rfl (by kernel_rfl) (NP.bl (NP.th (NP.th (NP.bl (NP.th NP.body))))) (by kernel_rfl) (by kernel_rfl) (by kernel_rfl) rfl (LO.load1 2 (v := .slice a_33 d.l.length c_34) rfl rfl Tryz.isAgg36 rfl) ?_
      refine JA.takeP 2 rfl (by kernel_rfl) (NP.bl (NP.th (NP.th (NP.bl (NP.th NP.body))))) (by kernel_rfl) (by kernel_rfl) rfl (PO.move (v := .int .i64 ((j : Nat) : Int)) rfl) ?_
      refine JA.takeP 3 rfl (by kernel_rfl) (NP.bl (NP.th (NP.th (NP.bl (NP.th NP.body))))) (by kernel_rfl) (by kernel_rfl) rfl (PO.fieldAddr fo39_0 he_37) ?_
      refine JA.take 4 rfl (by kernel_rfl) (NP.bl (NP.th (NP.th (NP.bl (NP.th NP.body))))) (by kernel_rfl) (by kernel_rfl) (by kernel_rfl) rfl (LO.load1 2 (v := .slice a_33 d.l.length c_34) rfl rfl Tryz.isAgg36 rfl) ?_
      refine JA.takeP 5 rfl (by kernel_rfl) (NP.bl (NP.th (NP.th (NP.bl (NP.th NP.body))))) (by kernel_rfl) (by kernel_rfl) rfl (PO.move (v := .int .i64 ((j : Nat) : Int)) rfl) ?_
      refine JA.facts fun hst => ?_
      obtain ⟨hr_44, hr_44b, -⟩ := row_some 0 rfl (by omega) hst
      refine JA.takeP 6 rfl (by kernel_rfl) (NP.bl (NP.th (NP.th (NP.bl (NP.th NP.body))))) (by kernel_rfl) (by kernel_rfl) rfl (PO.indexAddrV (i := j) Tryz.underlying36 Tryz.sizeOf173 hr_44 hr_44b rfl rfl (by omega)) ?_
      refine JA.takeP 7 rfl (by kernel_rfl) (NP.bl (NP.th (NP.th (NP.bl (NP.th NP.body))))) (by kernel_rfl) (by kernel_rfl) rfl (PO.fieldAddrE fo173_1 hr_44 rfl) ?_
      refine JA.take 8 rfl (by kernel_rfl) (NP.bl (NP.th (NP.th (NP.bl (NP.th NP.body))))) (by kernel_rfl) (by kernel_rfl) (by kernel_rfl) rfl (LO.loadR1 0 (v := .slice ((d.l.getD j o0).x.a0) ((d.l.getD j o0).t.cells.length) ((d.l.getD j o0).x.c0)) rfl rfl Tryz.isAgg34 (mid_at encO_len rfl hyl 1 (by decide))) ?_
      refine JA.one (i := 9) (by kernel_rfl) ?_
      refine JX.op rfl rfl (JO.call [] Tryz.call93 rfl (C_cloneC (d.l.getD j o0).x.a0 ((d.l.getD j o0).x.c0) ((d.l.getD j o0).t.cells) (by omega)) rfl (fun w hw => hw.seeOut_ hs_42 (fun _ _ => List.not_mem_nil))) ?_
      rintro _ _ ⟨_, ⟨a_47, c_48, rfl, rfl⟩, rfl⟩
      refine ⟨by simp, ?_⟩
      refine JA.takeP 10 rfl (by kernel_rfl) (NP.bl (NP.th (NP.th (NP.bl (NP.th NP.body))))) (by kernel_rfl) (by kernel_rfl) rfl (PO.indexAddrV (i := j) Tryz.underlying36 Tryz.sizeOf173 hr_44 hr_44b rfl rfl (by omega)) ?_
      refine JA.takeP 11 rfl (by kernel_rfl) (NP.bl (NP.th (NP.th (NP.bl (NP.th NP.body))))) (by kernel_rfl) (by kernel_rfl) rfl (PO.fieldAddrE fo173_1 hr_44 rfl) ?_
      refine JA.one (i := 12) (by kernel_rfl) ?_
      refine JX.last rfl rfl (by decide) (by kernel_rfl) (JO.storeR 1 (vs := [.slice a_47 (((d.l.getD j o0).t.cells).length) c_48]) (cs' := mid encO y [.int .i64 ((d.l.getD j o0).t.seq), .slice a_47 (((d.l.getD j o0).t.cells).length) c_48, .bool ((d.l.getD j o0).t.whole)] (d.l.drop (j + 1))) rfl rfl rfl rfl Tryz.sizeOf34 rfl rfl (by decide) (mid_fit encO_len rfl hyl (f := 1) (lb rfl)) (mid_set encO_len rfl hyl 1 [.slice a_47 (((d.l.getD j o0).t.cells).length) c_48] (lb rfl))) ?_
      rintro _ _ rfl
      refine JQ.blockN ?_
      refine JQ.seq ?_
      refine JC.region ?_
      refine JL.pure rfl (PO.add (c := ((j + 1 : Nat) : Int)) he_39 rfl (wr (by omega))) ?_
      refine JL.pure rfl (PO.move (v := .int .i64 ((j + 1 : Nat) : Int)) rfl) ?_
      refine JL.nil ?_
      refine JQ.ghost (L' := [Res.rows (rdsO (⟨⟨a_47, c_48⟩, (d.l.getD j o0).t⟩ : OX)), Res.row (.slice a_33 d.l.length c_34) 173 3 d.l.length (mid encO y [.int .i64 ((d.l.getD j o0).t.seq), .slice a_47 (((d.l.getD j o0).t.cells).length) c_48, .bool ((d.l.getD j o0).t.whole)] (d.l.drop (j + 1))), Res.rows (y.flatMap rdsO), bk b_30 39 [.slice a_33 d.l.length c_34, str d.jt, .int .i64 d.js], bk b_4 39 [.slice none 0 0, str [], .int .i64 0], bk b_3 39 [.slice d.a d.l.length d.c, str d.jt, .int .i64 d.js]]) (fun w hw => hw.closeR (A := rdsO (⟨⟨a_47, c_48⟩, (d.l.getD j o0).t⟩ : OX)) [0] rfl) ?_
      refine JQ.ghost (L' := [Res.rows ((y ++ [(⟨⟨a_47, c_48⟩, (d.l.getD j o0).t⟩ : OX)]).flatMap rdsO), Res.row (.slice a_33 d.l.length c_34) 173 3 d.l.length (((y ++ [(⟨⟨a_47, c_48⟩, (d.l.getD j o0).t⟩ : OX)]) ++ d.l.drop (j + 1)).flatMap encO), bk b_30 39 [.slice a_33 d.l.length c_34, str d.jt, .int .i64 d.js], bk b_4 39 [.slice none 0 0, str [], .int .i64 0], bk b_3 39 [.slice d.a d.l.length d.c, str d.jt, .int .i64 d.js]]) (fun w hw => St.addR [2, 1] rfl flatMap_snoc (hw.unmid 1 rfl (q := (⟨⟨a_47, c_48⟩, (d.l.getD j o0).t⟩ : OX)) rfl)) ?_
      refine JQ.pick [0, 0, 0, 0, 0] (A := [Res.rows ((y ++ [(⟨⟨a_47, c_48⟩, (d.l.getD j o0).t⟩ : OX)]).flatMap rdsO), Res.row (.slice a_33 d.l.length c_34) 173 3 d.l.length (((y ++ [(⟨⟨a_47, c_48⟩, (d.l.getD j o0).t⟩ : OX)]) ++ d.l.drop (j + 1)).flatMap encO), bk b_30 39 [.slice a_33 d.l.length c_34, str d.jt, .int .i64 d.js], bk b_4 39 [.slice none 0 0, str [], .int .i64 0], bk b_3 39 [.slice d.a d.l.length d.c, str d.jt, .int .i64 d.js]]) rfl ?_
      refine JQ.again (d.l.length - (j + 1)) (by omega) ⟨j + 1, (y ++ [(⟨⟨a_47, c_48⟩, (d.l.getD j o0).t⟩ : OX)]), by omega, (map_take_succ o0 hd hlt rfl), (by rw [List.length_append, hyl]; rfl), he_36, he_37, he_38, rfl, rfl, rfl⟩
    · skip
      refine JC.condF (congrArg Value.bool (decide_eq_false h_40)) ?_
      refine JC.exit ?_
      refine JQ.thenExit ?_
      refine JQ.thenExit ?_
      refine JQ.blockE ?_
      refine JQ.seq ?_
      refine JC.seq ?_
      refine JC.region ?_
      refine JL.ld rfl (LO.loadK 2 (vs := [.slice a_33 d.l.length c_34, str d.jt, .int .i64 d.js]) rfl he_37 Tryz.isAgg39 Tryz.sizeOf39 rfl rfl) ?_
      refine JL.op rfl (JO.store 3 (vs := [.slice a_33 d.l.length c_34, str d.jt, .int .i64 d.js]) (cs' := [.slice a_33 d.l.length c_34, str d.jt, .int .i64 d.js]) rfl he_36 rfl rfl Tryz.sizeOf39 rfl rfl (Nat.le_of_ble_eq_true rfl) rfl) ?_
      rintro _ _ rfl
      refine JL.nil ?_
      refine JQ.seq ?_
      refine JC.ret ?_
      have hsl : d.l.length = y.length := by omega
      refine JQ.ghost (L' := [Res.rows (y.flatMap rdsO), Res.row (.slice a_33 y.length c_34) 173 3 y.length (y.flatMap encO), bk b_30 39 [.slice a_33 d.l.length c_34, str d.jt, .int .i64 d.js], bk b_4 39 [.slice a_33 d.l.length c_34, str d.jt, .int .i64 d.js], bk b_3 39 [.slice d.a d.l.length d.c, str d.jt, .int .i64 d.js]]) (fun w hw => hw.eqL (by rw [List.drop_of_length_le (by omega), List.append_nil, hsl] <;> rfl)) ?_
      refine JQ.ghost (L' := [Res.rows (rdsOS a_33 c_34 y), bk b_30 39 [.slice a_33 d.l.length c_34, str d.jt, .int .i64 d.js], bk b_4 39 [.slice a_33 d.l.length c_34, str d.jt, .int .i64 d.js], bk b_3 39 [.slice d.a d.l.length d.c, str d.jt, .int .i64 d.js]]) (fun w hw => hw.consR (r := ⟨.slice a_33 y.length c_34, 173, 3, y.length, y.flatMap encO⟩) (A := y.flatMap rdsO) [1, 0] rfl) ?_
      refine Done.one (.inl rfl) rfl (RV.cell1 (LO.loadK 2 (vs := [.slice a_33 d.l.length c_34, str d.jt, .int .i64 d.js]) rfl he_36 Tryz.isAgg39 Tryz.sizeOf39 rfl rfl) ⟨_, he_36⟩) (List.sublist_append_left [Res.rows (rdsOS a_33 c_34 y)] [bk b_30 39 [.slice a_33 d.l.length c_34, str d.jt, .int .i64 d.js], bk b_4 39 [.slice a_33 d.l.length c_34, str d.jt, .int .i64 d.js], bk b_3 39 [.slice d.a d.l.length d.c, str d.jt, .int .i64 d.js]]) ?_
      have hda := map_all hd (show d.l.length ≤ j by omega)
      exact ⟨⟨a_33, c_34, y, d.jt, d.js⟩, by simp only [DX.dat, hda], by rw [hsl], rfl⟩

set_option maxRecDepth 4000 in
set_option maxHeartbeats 1000000 in
theorem Z_specl23Copy (d : DX) (hl : d.dat.lim 1000000000) :
    Ct Tryz.prog 87 [.agg #[.slice d.a d.l.length d.c, str d.jt, .int .i64 d.js]] [] (fun w => SeesA w (rdsD d)) (fun v A' => ∃ y : DX, y.dat = d.dat ∧ v = .agg #[.slice y.a y.l.length y.c, str y.jt, .int .i64 y.js] ∧ A' = [.rows (rdsD y)]) := by
  refine Ct.intro Tryz.func87 rfl Tryz.ntmps87 (Nat.le_of_ble_eq_true rfl) fun w0 hpre => ?_
  have hs_1 : Sees w0 (.slice d.a d.l.length d.c) 3 d.l.length (d.l.flatMap encO) := (hpre).head
  have hi_2 : SeesA w0 (d.l.flatMap rdsO) := (hpre).tail
  have hlm : d.l.length ≤ 1000000000 ∧ ∀ q ∈ d.l, q.t.lim 1000000000 := ⟨by have := hl.l0; simpa only [DX.dat, List.length_map] using this, fun q hq => hl.l1 _ (List.mem_map_of_mem hq)⟩
  have hlm0 := hlm.1
  refine JC.seq ?_
  refine JC.region ?_
  refine JL.op rfl (JO.box (cs := [.slice d.a d.l.length d.c, str d.jt, .int .i64 d.js]) rfl rfl) ?_
  rintro _ _ ⟨b_3, rfl, rfl⟩
  refine JL.op rfl (JO.alloc (z := .agg #[.slice none 0 0, str [], .int .i64 0]) (cs := [.slice none 0 0, str [], .int .i64 0]) Tryz.zeroValue39 rfl) ?_
  rintro _ _ ⟨b_4, rfl, rfl⟩
  refine JL.nil ?_
  refine JQ.seq ?_
  refine JC.seq ?_
  refine JC.region ?_
  refine JL.pure rfl (PO.fieldAddr fo39_1 rfl) ?_
  refine JL.ld rfl (LO.loadK 1 (vs := [str d.jt, .int .i64 d.js]) rfl rfl Tryz.isAgg37 Tryz.sizeOf37 rfl rfl) ?_
  refine JL.pure rfl (PO.build (ps := [(1, .agg #[str d.jt, .int .i64 d.js])]) (cs := [.slice none 0 0, str d.jt, .int .i64 d.js]) rfl (by kernel_rfl)) ?_
  refine JL.op rfl (JO.alloc (z := .agg #[.slice none 0 0, str [], .int .i64 0]) (cs := [.slice none 0 0, str [], .int .i64 0]) Tryz.zeroValue39 rfl) ?_
  rintro _ _ ⟨b_5, rfl, rfl⟩
  refine JL.op rfl (JO.store 0 (vs := [.slice none 0 0, str d.jt, .int .i64 d.js]) (cs' := [.slice none 0 0, str d.jt, .int .i64 d.js]) rfl rfl rfl rfl Tryz.sizeOf39 rfl rfl (Nat.le_of_ble_eq_true rfl) rfl) ?_
  rintro _ _ rfl
  refine JL.nil ?_
  refine JQ.seq ?_
  refine JC.seq ?_
  refine JC.seq ?_
  refine JC.region ?_
  refine JL.pure rfl (PO.assign (v := .int .i64 0) rfl) ?_
  refine JL.nil ?_
  refine JQ.seq ?_
  refine JC.block ?_
  refine JC.nilRow 173 3 ?_
  refine JC.ghost (L' := [Res.rows (([] : List OX).flatMap rdsO), Res.row (.slice none 0 0) 173 3 0 (([] : List OX).flatMap encO), bk b_5 39 [.slice none 0 0, str d.jt, .int .i64 d.js], bk b_4 39 [.slice none 0 0, str [], .int .i64 0], bk b_3 39 [.slice d.a d.l.length d.c, str d.jt, .int .i64 d.js]]) (fun w hw => hw.nilR (α := OX) (f := rdsO) [0, 0] (B := [Res.row (.slice none 0 0) 173 3 0 (([] : List OX).flatMap encO), bk b_5 39 [.slice none 0 0, str d.jt, .int .i64 d.js]]) (F := [bk b_4 39 [.slice none 0 0, str [], .int .i64 0], bk b_3 39 [.slice d.a d.l.length d.c, str d.jt, .int .i64 d.js]]) rfl) ?_
  refine JC.loop (fun k_ e_ L_ => ∃ j : Nat, ∃ ya : Option Addr, ∃ yc : Nat, ∃ y : List OX, (j ≤ d.l.length) ∧ (y.map OX.t = (d.l.take j).map OX.t) ∧ (y.length = j) ∧ e_ 1 = .pointer (some ⟨b_3, 0, none⟩) ∧ e_ 2 = .pointer (some ⟨b_4, 0, none⟩) ∧ e_ 3 = .pointer (some ⟨b_5, 0, none⟩) ∧ e_ 4 = .int .i64 ((j : Nat) : Int) ∧ L_ = [Res.rows (y.flatMap rdsO), Res.row (.slice ya y.length yc) 173 3 y.length (y.flatMap encO), bk b_5 39 [.slice ya y.length yc, str d.jt, .int .i64 d.js], bk b_4 39 [.slice none 0 0, str [], .int .i64 0], bk b_3 39 [.slice d.a d.l.length d.c, str d.jt, .int .i64 d.js]] ∧ k_ = d.l.length - j) _ ⟨0, none, 0, [], by omega, rfl, rfl, rfl, rfl, rfl, rfl, rfl, rfl⟩ ?_
  rintro _ e_6 _ ⟨j, ya, yc, y, hj, hd, hyl, he_7, he_8, he_9, he_10, rfl, rfl⟩
  refine JC.seq ?_
  refine JC.seq ?_
  refine JC.region ?_
  refine JL.pure rfl (PO.move (v := .int .i64 ((j : Nat) : Int)) he_10) ?_
  refine JL.pure rfl (PO.fieldAddr fo39_0 he_7) ?_
  refine JL.ld rfl (LO.load1 4 (v := .slice d.a d.l.length d.c) rfl rfl Tryz.isAgg36 rfl) ?_
  refine JL.pure rfl (PO.lenV Tryz.underlying36 rfl) ?_
  refine JL.pure rfl (PO.lss rfl rfl) ?_
  refine JL.nil ?_
  refine JQ.seq ?_
  by_cases h_11 : ((j : Nat) : Int) < ((d.l.length : Nat) : Int)
  · skip
    have hlt : j < d.l.length := by omega
    have hb9 : (d.l.getD j o0).t.cells.length ≤ 1000000000 := (hlm.2 _ (getD_mem hlt)).l0
    refine JC.condT (congrArg Value.bool (decide_eq_true h_11)) ?_
    refine JC.skip ?_
    refine JQ.seq ?_
    refine JC.seq ?_
    refine JC.block ?_
    refine JC.seq ?_
    refine JC.region ?_
    refine JL.pure rfl (PO.fieldAddr fo39_0 he_7) ?_
    refine JL.ld rfl (LO.load1 4 (v := .slice d.a d.l.length d.c) rfl rfl Tryz.isAgg36 rfl) ?_
    refine JL.pure rfl (PO.move (v := .int .i64 ((j : Nat) : Int)) he_10) ?_
    obtain ⟨hr_12, hr_12b, -⟩ := sees_some hs_1 (by omega)
    refine JL.pure rfl (PO.indexAddrV (i := j) Tryz.underlying36 Tryz.sizeOf173 hr_12 hr_12b rfl rfl (by omega)) ?_
    have hi_13 := SeesA.elem hi_2 o0 (show j < d.l.length by omega)
    have hs_14 := seesO hi_13
    refine JL.ld rfl (LO.loadSK (vs := [.int .i64 ((d.l.getD j o0).t.seq), .slice ((d.l.getD j o0).x.a0) ((d.l.getD j o0).t.cells.length) ((d.l.getD j o0).x.c0), .bool ((d.l.getD j o0).t.whole)]) hs_1 (fun _ _ => List.not_mem_nil) rfl Tryz.isAgg173 Tryz.sizeOf173 (flat_take encO_len o0 d.l j (by omega)) rfl (by decide)) ?_
    refine JL.op rfl (JO.alloc (z := .agg #[.int .i64 0, .slice none 0 0, .bool false]) (cs := [.int .i64 0, .slice none 0 0, .bool false]) Tryz.zeroValue173 rfl) ?_
    rintro _ _ ⟨b_15, rfl, rfl⟩
    refine JL.op rfl (JO.store 0 (vs := [.int .i64 ((d.l.getD j o0).t.seq), .slice ((d.l.getD j o0).x.a0) ((d.l.getD j o0).t.cells.length) ((d.l.getD j o0).x.c0), .bool ((d.l.getD j o0).t.whole)]) (cs' := [.int .i64 ((d.l.getD j o0).t.seq), .slice ((d.l.getD j o0).x.a0) ((d.l.getD j o0).t.cells.length) ((d.l.getD j o0).x.c0), .bool ((d.l.getD j o0).t.whole)]) rfl rfl rfl rfl Tryz.sizeOf173 rfl rfl (Nat.le_of_ble_eq_true rfl) rfl) ?_
    rintro _ _ rfl
    refine JL.nil ?_
    refine JQ.seq ?_
    refine JC.seq ?_
    refine JC.region ?_
    refine JL.op rfl (JO.buildSlice (ps := []) (cur := #[]) Tryz.underlying34 Tryz.sizeOf131 Tryz.zeroValue131 rfl (by kernel_rfl) (by decide) (by decide)) ?_
    rintro _ _ ⟨a_16, rfl, rfl⟩
    refine JL.pure rfl (PO.fieldAddr fo173_1 rfl) ?_
    refine JL.ld rfl (LO.load1 1 (v := .slice ((d.l.getD j o0).x.a0) ((d.l.getD j o0).t.cells.length) ((d.l.getD j o0).x.c0)) rfl rfl Tryz.isAgg34 rfl) ?_
    refine JL.op rfl (JO.append' 0 (q := ((d.l.getD j o0).t.cells.length)) (news := ((d.l.getD j o0).t.cells).flatMap encC) (n' := ((d.l.getD j o0).t.cells).length) (cs' := ((d.l.getD j o0).t.cells).flatMap encC) rfl Tryz.underlying34 Tryz.underlying34 Tryz.typeInfo131 rfl (by' := 32) rfl rfl rfl rfl rfl (fun w hw => Src.sees (hw.seeOut_ hs_14 (fun _ _ => List.not_mem_nil)) (oneC _)) (by (try simp only [List.length_append, List.length_cons, List.length_nil, List.length_take, List.length_drop]); omega) (by (try simp only [List.length_append, List.length_cons, List.length_nil, List.length_take, List.length_drop]); omega) (by (try simp only [List.length_take, List.length_drop]); first | rfl | omega) rfl) ?_
    rintro _ _ ⟨a_17, c_18, rfl, rfl⟩
    refine JL.pure rfl (PO.fieldAddr fo173_1 rfl) ?_
    refine JL.op rfl (JO.store 1 (vs := [.slice a_17 (((d.l.getD j o0).t.cells).length) c_18]) (cs' := [.int .i64 ((d.l.getD j o0).t.seq), .slice a_17 (((d.l.getD j o0).t.cells).length) c_18, .bool ((d.l.getD j o0).t.whole)]) rfl rfl rfl rfl Tryz.sizeOf34 rfl rfl (Nat.le_of_ble_eq_true rfl) rfl) ?_
    rintro _ _ rfl
    refine JL.nil ?_
    refine JQ.seq ?_
    refine JC.region ?_
    refine JL.pure rfl (PO.fieldAddr fo39_0 he_9) ?_
    refine JL.ld rfl (LO.load1 4 (v := .slice ya y.length yc) rfl rfl Tryz.isAgg36 rfl) ?_
    refine JL.ld rfl (LO.loadK 1 (vs := [.int .i64 ((d.l.getD j o0).t.seq), .slice a_17 (((d.l.getD j o0).t.cells).length) c_18, .bool ((d.l.getD j o0).t.whole)]) rfl rfl Tryz.isAgg173 Tryz.sizeOf173 rfl rfl) ?_
    refine JL.op rfl (JO.buildSlice (ps := [(0, .agg #[.int .i64 ((d.l.getD j o0).t.seq), .slice a_17 (((d.l.getD j o0).t.cells).length) c_18, .bool ((d.l.getD j o0).t.whole)])]) (cur := #[.int .i64 ((d.l.getD j o0).t.seq), .slice a_17 (((d.l.getD j o0).t.cells).length) c_18, .bool ((d.l.getD j o0).t.whole)]) Tryz.underlying36 Tryz.sizeOf173 Tryz.zeroValue173 rfl (by kernel_rfl) (by decide) (by decide)) ?_
    rintro _ _ ⟨a_19, rfl, rfl⟩
    refine JL.op rfl (JO.append' 4 (q := 1) (news := ([(⟨⟨a_17, c_18⟩, ⟨(d.l.getD j o0).t.seq, (d.l.getD j o0).t.cells, (d.l.getD j o0).t.whole⟩⟩ : OX)] : List OX).flatMap encO) (n' := (y ++ ([(⟨⟨a_17, c_18⟩, ⟨(d.l.getD j o0).t.seq, (d.l.getD j o0).t.cells, (d.l.getD j o0).t.whole⟩⟩ : OX)] : List OX)).length) (cs' := (y ++ ([(⟨⟨a_17, c_18⟩, ⟨(d.l.getD j o0).t.seq, (d.l.getD j o0).t.cells, (d.l.getD j o0).t.whole⟩⟩ : OX)] : List OX)).flatMap encO) rfl Tryz.underlying36 Tryz.underlying36 Tryz.typeInfo173 rfl (by' := 40) rfl rfl rfl rfl rfl (fun w hw => Src.sees (hw.see (i := 0) rfl) (oneO _)) (by (try simp only [List.length_append, List.length_cons, List.length_nil, List.length_take, List.length_drop]); omega) (by (try simp only [List.length_append, List.length_cons, List.length_nil, List.length_take, List.length_drop]); omega) (by simp only [List.length_append, List.length_take, List.length_drop, List.length_cons, List.length_nil] <;> first | rfl | omega) (by simp only [List.flatMap_append])) ?_
    rintro _ _ ⟨a_20, c_21, rfl, rfl⟩
    refine JL.pure rfl (PO.fieldAddr fo39_0 he_9) ?_
    refine JL.op rfl (JO.store 5 (vs := [.slice a_20 ((y ++ ([(⟨⟨a_17, c_18⟩, ⟨(d.l.getD j o0).t.seq, (d.l.getD j o0).t.cells, (d.l.getD j o0).t.whole⟩⟩ : OX)] : List OX)).length) c_21]) (cs' := [.slice a_20 ((y ++ ([(⟨⟨a_17, c_18⟩, ⟨(d.l.getD j o0).t.seq, (d.l.getD j o0).t.cells, (d.l.getD j o0).t.whole⟩⟩ : OX)] : List OX)).length) c_21, str d.jt, .int .i64 d.js]) rfl rfl rfl rfl Tryz.sizeOf36 rfl rfl (Nat.le_of_ble_eq_true rfl) rfl) ?_
    rintro _ _ rfl
    refine JL.nil ?_
    refine JQ.blockN ?_
    refine JQ.seq ?_
    refine JC.region ?_
    refine JL.pure rfl (PO.move (v := .int .i64 ((j : Nat) : Int)) he_10) ?_
    refine JL.pure rfl (PO.add (c := ((j + 1 : Nat) : Int)) rfl rfl (wr (by omega))) ?_
    refine JL.pure rfl (PO.assign (v := .int .i64 ((j + 1 : Nat) : Int)) rfl) ?_
    refine JL.nil ?_
    refine JQ.ghost (L' := [Res.rows (rdsO (⟨⟨a_17, c_18⟩, ⟨(d.l.getD j o0).t.seq, (d.l.getD j o0).t.cells, (d.l.getD j o0).t.whole⟩⟩ : OX)), Res.row (.slice a_19 1 1) 173 3 1 (([(⟨⟨a_17, c_18⟩, ⟨(d.l.getD j o0).t.seq, (d.l.getD j o0).t.cells, (d.l.getD j o0).t.whole⟩⟩ : OX)] : List OX).flatMap encO), bk b_15 173 [.int .i64 ((d.l.getD j o0).t.seq), .slice a_17 (((d.l.getD j o0).t.cells).length) c_18, .bool ((d.l.getD j o0).t.whole)], Res.rows (y.flatMap rdsO), Res.row (.slice a_20 ((y ++ ([(⟨⟨a_17, c_18⟩, ⟨(d.l.getD j o0).t.seq, (d.l.getD j o0).t.cells, (d.l.getD j o0).t.whole⟩⟩ : OX)] : List OX)).length) c_21) 173 3 ((y ++ ([(⟨⟨a_17, c_18⟩, ⟨(d.l.getD j o0).t.seq, (d.l.getD j o0).t.cells, (d.l.getD j o0).t.whole⟩⟩ : OX)] : List OX)).length) ((y ++ ([(⟨⟨a_17, c_18⟩, ⟨(d.l.getD j o0).t.seq, (d.l.getD j o0).t.cells, (d.l.getD j o0).t.whole⟩⟩ : OX)] : List OX)).flatMap encO), bk b_5 39 [.slice a_20 ((y ++ ([(⟨⟨a_17, c_18⟩, ⟨(d.l.getD j o0).t.seq, (d.l.getD j o0).t.cells, (d.l.getD j o0).t.whole⟩⟩ : OX)] : List OX)).length) c_21, str d.jt, .int .i64 d.js], bk b_4 39 [.slice none 0 0, str [], .int .i64 0], bk b_3 39 [.slice d.a d.l.length d.c, str d.jt, .int .i64 d.js]]) (fun w hw => hw.closeR (A := rdsO (⟨⟨a_17, c_18⟩, ⟨(d.l.getD j o0).t.seq, (d.l.getD j o0).t.cells, (d.l.getD j o0).t.whole⟩⟩ : OX)) [1] rfl) ?_
    refine JQ.ghost (L' := [Res.rows ((y ++ [(⟨⟨a_17, c_18⟩, ⟨(d.l.getD j o0).t.seq, (d.l.getD j o0).t.cells, (d.l.getD j o0).t.whole⟩⟩ : OX)]).flatMap rdsO), Res.row (.slice a_19 1 1) 173 3 1 (([(⟨⟨a_17, c_18⟩, ⟨(d.l.getD j o0).t.seq, (d.l.getD j o0).t.cells, (d.l.getD j o0).t.whole⟩⟩ : OX)] : List OX).flatMap encO), bk b_15 173 [.int .i64 ((d.l.getD j o0).t.seq), .slice a_17 (((d.l.getD j o0).t.cells).length) c_18, .bool ((d.l.getD j o0).t.whole)], Res.row (.slice a_20 ((y ++ ([(⟨⟨a_17, c_18⟩, ⟨(d.l.getD j o0).t.seq, (d.l.getD j o0).t.cells, (d.l.getD j o0).t.whole⟩⟩ : OX)] : List OX)).length) c_21) 173 3 ((y ++ ([(⟨⟨a_17, c_18⟩, ⟨(d.l.getD j o0).t.seq, (d.l.getD j o0).t.cells, (d.l.getD j o0).t.whole⟩⟩ : OX)] : List OX)).length) ((y ++ ([(⟨⟨a_17, c_18⟩, ⟨(d.l.getD j o0).t.seq, (d.l.getD j o0).t.cells, (d.l.getD j o0).t.whole⟩⟩ : OX)] : List OX)).flatMap encO), bk b_5 39 [.slice a_20 ((y ++ ([(⟨⟨a_17, c_18⟩, ⟨(d.l.getD j o0).t.seq, (d.l.getD j o0).t.cells, (d.l.getD j o0).t.whole⟩⟩ : OX)] : List OX)).length) c_21, str d.jt, .int .i64 d.js], bk b_4 39 [.slice none 0 0, str [], .int .i64 0], bk b_3 39 [.slice d.a d.l.length d.c, str d.jt, .int .i64 d.js]]) (fun w hw => hw.addR [3, 0] rfl flatMap_snoc) ?_
    refine JQ.pick [0, 2, 2, 2, 2] (A := [Res.rows ((y ++ [(⟨⟨a_17, c_18⟩, ⟨(d.l.getD j o0).t.seq, (d.l.getD j o0).t.cells, (d.l.getD j o0).t.whole⟩⟩ : OX)]).flatMap rdsO), Res.row (.slice a_20 ((y ++ ([(⟨⟨a_17, c_18⟩, ⟨(d.l.getD j o0).t.seq, (d.l.getD j o0).t.cells, (d.l.getD j o0).t.whole⟩⟩ : OX)] : List OX)).length) c_21) 173 3 ((y ++ [(⟨⟨a_17, c_18⟩, ⟨(d.l.getD j o0).t.seq, (d.l.getD j o0).t.cells, (d.l.getD j o0).t.whole⟩⟩ : OX)]).length) ((y ++ [(⟨⟨a_17, c_18⟩, ⟨(d.l.getD j o0).t.seq, (d.l.getD j o0).t.cells, (d.l.getD j o0).t.whole⟩⟩ : OX)]).flatMap encO), bk b_5 39 [.slice a_20 ((y ++ ([(⟨⟨a_17, c_18⟩, ⟨(d.l.getD j o0).t.seq, (d.l.getD j o0).t.cells, (d.l.getD j o0).t.whole⟩⟩ : OX)] : List OX)).length) c_21, str d.jt, .int .i64 d.js], bk b_4 39 [.slice none 0 0, str [], .int .i64 0], bk b_3 39 [.slice d.a d.l.length d.c, str d.jt, .int .i64 d.js]]) rfl ?_
    refine JQ.again (d.l.length - (j + 1)) (by omega) ⟨j + 1, a_20, c_21, (y ++ [(⟨⟨a_17, c_18⟩, ⟨(d.l.getD j o0).t.seq, (d.l.getD j o0).t.cells, (d.l.getD j o0).t.whole⟩⟩ : OX)]), by omega, (map_take_succ o0 hd hlt rfl), (by rw [List.length_append, hyl]; rfl), he_7, he_8, he_9, rfl, rfl, rfl⟩
  · skip
    refine JC.condF (congrArg Value.bool (decide_eq_false h_11)) ?_
    refine JC.exit ?_
    refine JQ.thenExit ?_
    refine JQ.thenExit ?_
    refine JQ.blockE ?_
    refine JQ.seq ?_
    refine JC.seq ?_
    refine JC.region ?_
    refine JL.ld rfl (LO.loadK 2 (vs := [.slice ya y.length yc, str d.jt, .int .i64 d.js]) rfl he_9 Tryz.isAgg39 Tryz.sizeOf39 rfl rfl) ?_
    refine JL.op rfl (JO.store 3 (vs := [.slice ya y.length yc, str d.jt, .int .i64 d.js]) (cs' := [.slice ya y.length yc, str d.jt, .int .i64 d.js]) rfl he_8 rfl rfl Tryz.sizeOf39 rfl rfl (Nat.le_of_ble_eq_true rfl) rfl) ?_
    rintro _ _ rfl
    refine JL.nil ?_
    refine JQ.seq ?_
    refine JC.ret ?_
    refine JQ.ghost (L' := [Res.rows (rdsOS ya yc y), bk b_5 39 [.slice ya y.length yc, str d.jt, .int .i64 d.js], bk b_4 39 [.slice ya y.length yc, str d.jt, .int .i64 d.js], bk b_3 39 [.slice d.a d.l.length d.c, str d.jt, .int .i64 d.js]]) (fun w hw => hw.consR (r := ⟨.slice ya y.length yc, 173, 3, y.length, y.flatMap encO⟩) (A := y.flatMap rdsO) [1, 0] rfl) ?_
    refine Done.one (.inl rfl) rfl (RV.cell1 (LO.loadK 2 (vs := [.slice ya y.length yc, str d.jt, .int .i64 d.js]) rfl he_8 Tryz.isAgg39 Tryz.sizeOf39 rfl rfl) ⟨_, he_8⟩) (List.sublist_append_left [Res.rows (rdsOS ya yc y)] [bk b_5 39 [.slice ya y.length yc, str d.jt, .int .i64 d.js], bk b_4 39 [.slice ya y.length yc, str d.jt, .int .i64 d.js], bk b_3 39 [.slice d.a d.l.length d.c, str d.jt, .int .i64 d.js]]) ?_
    have hda := map_all hd (show d.l.length ≤ j by omega)
    exact ⟨⟨ya, yc, y, d.jt, d.js⟩, by simp only [DX.dat, hda], rfl, rfl⟩

set_option maxRecDepth 4000 in
set_option maxHeartbeats 1000000 in
theorem Z_implKernelclone (k : KX) (hl : k.dat.lim 1000000000) :
    Ct Tryz.prog 38 [.agg #[.slice k.a0 k.store.length k.c0, .slice k.a1 k.txs.length k.c1, .slice k.dk.a k.dk.l.length k.dk.c, str k.dk.jt, .int .i64 k.dk.js, .int .i64 k.seq, .int .i64 k.next, .int .i64 k.time, .slice k.a2 k.hist.length k.c2, .slice k.a3 k.seen.length k.c3, .bool k.room]] [] (fun w => SeesA w (rdsN k)) (fun v A' => ∃ y : KX, y.dat = k.dat ∧ v = .agg #[.slice y.a0 y.store.length y.c0, .slice y.a1 y.txs.length y.c1, .slice y.dk.a y.dk.l.length y.dk.c, str y.dk.jt, .int .i64 y.dk.js, .int .i64 y.seq, .int .i64 y.next, .int .i64 y.time, .slice y.a2 y.hist.length y.c2, .slice y.a3 y.seen.length y.c3, .bool y.room] ∧ A' = [.rows (rdsN y)]) := by
  refine Ct.intro Tryz.func38 rfl Tryz.ntmps38 (Nat.le_of_ble_eq_true rfl) fun w0 hpre => ?_
  obtain ⟨hs_1, hs_2, hs_3, hs_4, hs_5⟩ := seesN hpre
  have hs_6 : Sees w0 (.slice k.a1 k.txs.length k.c1) 10 k.txs.length (k.txs.flatMap encX) := (hs_3).head
  have hi_7 : SeesA w0 (k.txs.flatMap rdsX) := (hs_3).tail
  have hs_8 : Sees w0 (.slice k.dk.a k.dk.l.length k.dk.c) 3 k.dk.l.length (k.dk.l.flatMap encO) := (hs_4).head
  have hi_9 : SeesA w0 (k.dk.l.flatMap rdsO) := (hs_4).tail
  have hs_10 : Sees w0 (.slice k.a2 k.hist.length k.c2) 8 k.hist.length (k.hist.flatMap encE) := (hs_5).head
  have hi_11 : SeesA w0 (k.hist.flatMap rdsE) := (hs_5).tail
  have hm0 : k.store.length ≤ 1000000000 := hl.l0
  have hm6 : k.seen.length ≤ 1000000000 := hl.l6
  have hm1 : k.txs.length ≤ 1000000000 := by have := hl.l1; simpa only [KX.dat, List.length_map] using this
  have hm2 : ∀ q ∈ k.txs, q.t.lim 1000000000 := fun q hq => hl.l2 _ (List.mem_map_of_mem hq)
  have hm4 : k.hist.length ≤ 1000000000 := by have := hl.l4; simpa only [KX.dat, List.length_map] using this
  have hm5 : ∀ q ∈ k.hist, q.t.lim 1000000000 := fun q hq => hl.l5 _ (List.mem_map_of_mem hq)
  refine JC.seq ?_
  refine JC.region ?_
  refine JL.op rfl (JO.box (cs := [.slice k.a0 k.store.length k.c0, .slice k.a1 k.txs.length k.c1, .slice k.dk.a k.dk.l.length k.dk.c, str k.dk.jt, .int .i64 k.dk.js, .int .i64 k.seq, .int .i64 k.next, .int .i64 k.time, .slice k.a2 k.hist.length k.c2, .slice k.a3 k.seen.length k.c3, .bool k.room]) rfl rfl) ?_
  rintro _ _ ⟨b_12, rfl, rfl⟩
  refine JL.op rfl (JO.alloc (z := .agg #[.slice none 0 0, .slice none 0 0, .slice none 0 0, str [], .int .i64 0, .int .i64 0, .int .i64 0, .int .i64 0, .slice none 0 0, .slice none 0 0, .bool false]) (cs := [.slice none 0 0, .slice none 0 0, .slice none 0 0, str [], .int .i64 0, .int .i64 0, .int .i64 0, .int .i64 0, .slice none 0 0, .slice none 0 0, .bool false]) Tryz.zeroValue42 rfl) ?_
  rintro _ _ ⟨b_13, rfl, rfl⟩
  refine JL.nil ?_
  refine JQ.seq ?_
  refine JC.seq ?_
  refine JC.regionA [bk b_13 42 [.slice none 0 0, .slice none 0 0, .slice none 0 0, str [], .int .i64 0, .int .i64 0, .int .i64 0, .int .i64 0, .slice none 0 0, .slice none 0 0, .bool false], bk b_12 42 [.slice k.a0 k.store.length k.c0, .slice k.a1 k.txs.length k.c1, .slice k.dk.a k.dk.l.length k.dk.c, str k.dk.jt, .int .i64 k.dk.js, .int .i64 k.seq, .int .i64 k.next, .int .i64 k.time, .slice k.a2 k.hist.length k.c2, .slice k.a3 k.seen.length k.c3, .bool k.room]] 12 mixed (by simp) ?_
  refine JA.takeP 0 rfl (by kernel_rfl) (NP.th NP.body) (by kernel_rfl) (by kernel_rfl) rfl (PO.fieldAddr fo42_0 rfl) ?_
  refine JA.take 1 rfl (by kernel_rfl) (NP.th NP.body) (by kernel_rfl) (by kernel_rfl) (by kernel_rfl) rfl (LO.load1 1 (v := .slice k.a0 k.store.length k.c0) rfl rfl Tryz.isAgg34 rfl) ?_
  refine JA.takeP 3 rfl (by kernel_rfl) (NP.th NP.body) (by kernel_rfl) (by kernel_rfl) rfl (PO.fieldAddr fo42_1 rfl) ?_
  refine JA.take 4 rfl (by kernel_rfl) (NP.th NP.body) (by kernel_rfl) (by kernel_rfl) (by kernel_rfl) rfl (LO.load1 1 (v := .slice k.a1 k.txs.length k.c1) rfl rfl Tryz.isAgg35 rfl) ?_
  refine JA.takeP 6 rfl (by kernel_rfl) (NP.th NP.body) (by kernel_rfl) (by kernel_rfl) rfl (PO.fieldAddr fo42_2 rfl) ?_
  refine JA.take 7 rfl (by kernel_rfl) (NP.th NP.body) (by kernel_rfl) (by kernel_rfl) (by kernel_rfl) rfl (LO.loadK 1 (vs := [.slice k.dk.a k.dk.l.length k.dk.c, str k.dk.jt, .int .i64 k.dk.js]) rfl rfl Tryz.isAgg39 Tryz.sizeOf39 rfl rfl) ?_
  refine JA.takeP 9 rfl (by kernel_rfl) (NP.th NP.body) (by kernel_rfl) (by kernel_rfl) rfl (PO.fieldAddr fo42_7 rfl) ?_
  refine JA.take 10 rfl (by kernel_rfl) (NP.th NP.body) (by kernel_rfl) (by kernel_rfl) (by kernel_rfl) rfl (LO.load1 1 (v := .slice k.a3 k.seen.length k.c3) rfl rfl Tryz.isAgg30 rfl) ?_
  refine JA.one (i := 2) (by kernel_rfl) ?_
  refine JX.op rfl rfl (JO.call [] Tryz.call93 rfl (C_cloneC k.a0 k.c0 k.store (by omega)) rfl (fun w hw => hw.seeOut_ hs_1 (fun _ _ => List.not_mem_nil))) ?_
  rintro _ _ ⟨_, ⟨a_28, c_29, rfl, rfl⟩, rfl⟩
  refine ⟨by simp, ?_⟩
  refine JA.takeP 12 rfl (by kernel_rfl) (NP.th NP.body) (by kernel_rfl) (by kernel_rfl) rfl (PO.fieldAddr fo42_0 rfl) ?_
  refine JA.one (i := 5) (by kernel_rfl) ?_
  refine JX.op rfl rfl (JO.call [] Tryz.call94 rfl (Z_impltxsCopy k.a1 k.c1 k.txs (by omega) hm2) rfl (fun w hw => SeesA.cons (hw.seeOut_ hs_6 (fun _ _ => List.not_mem_nil)) (hw.seeOutA hi_7 nMA))) ?_
  rintro _ _ ⟨_, ⟨a_38, c_39, y_40, hy_41, rfl, rfl⟩, rfl⟩
  refine ⟨by simp, ?_⟩
  refine JA.one (i := 8) (by kernel_rfl) ?_
  refine JX.op rfl rfl (JO.call [] Tryz.call95 rfl (Z_implDiskclone k.dk hl.l3) rfl (fun w hw => hw.seeOutA hs_4 nMA)) ?_
  rintro _ _ ⟨_, ⟨y_44, hy_45, rfl, rfl⟩, rfl⟩
  refine ⟨by simp, ?_⟩
  refine JA.one (i := 11) (by kernel_rfl) ?_
  refine JX.op rfl rfl (JO.call [] Tryz.call96 rfl (C_cloneS k.a3 k.c3 k.seen (by omega)) rfl (fun w hw => hw.seeOut_ hs_2 (fun _ _ => List.not_mem_nil))) ?_
  rintro _ _ ⟨_, ⟨a_48, c_49, rfl, rfl⟩, rfl⟩
  refine ⟨by simp, ?_⟩
  refine JA.one (i := 13) (by kernel_rfl) ?_
  refine JX.late rfl rfl (by decide) (by kernel_rfl) (JO.store 5 (vs := [.slice a_28 k.store.length c_29]) (cs' := [.slice a_28 k.store.length c_29, .slice k.a1 k.txs.length k.c1, .slice k.dk.a k.dk.l.length k.dk.c, str k.dk.jt, .int .i64 k.dk.js, .int .i64 k.seq, .int .i64 k.next, .int .i64 k.time, .slice k.a2 k.hist.length k.c2, .slice k.a3 k.seen.length k.c3, .bool k.room]) rfl rfl rfl rfl Tryz.sizeOf34 rfl rfl (Nat.le_of_ble_eq_true rfl) rfl) ?_
  rintro _ _ rfl
  refine JA.takeP 14 rfl (by kernel_rfl) (NP.th NP.body) (by kernel_rfl) (by kernel_rfl) rfl (PO.fieldAddr fo42_1 rfl) ?_
  refine JA.one (i := 15) (by kernel_rfl) ?_
  refine JX.late rfl rfl (by decide) (by kernel_rfl) (JO.store 5 (vs := [.slice a_38 y_40.length c_39]) (cs' := [.slice a_28 k.store.length c_29, .slice a_38 y_40.length c_39, .slice k.dk.a k.dk.l.length k.dk.c, str k.dk.jt, .int .i64 k.dk.js, .int .i64 k.seq, .int .i64 k.next, .int .i64 k.time, .slice k.a2 k.hist.length k.c2, .slice k.a3 k.seen.length k.c3, .bool k.room]) rfl rfl rfl rfl Tryz.sizeOf35 rfl rfl (Nat.le_of_ble_eq_true rfl) rfl) ?_
  rintro _ _ rfl
  refine JA.takeP 16 rfl (by kernel_rfl) (NP.th NP.body) (by kernel_rfl) (by kernel_rfl) rfl (PO.fieldAddr fo42_2 rfl) ?_
  refine JA.one (i := 17) (by kernel_rfl) ?_
  refine JX.late rfl rfl (by decide) (by kernel_rfl) (JO.store 5 (vs := [.slice y_44.a y_44.l.length y_44.c, str y_44.jt, .int .i64 y_44.js]) (cs' := [.slice a_28 k.store.length c_29, .slice a_38 y_40.length c_39, .slice y_44.a y_44.l.length y_44.c, str y_44.jt, .int .i64 y_44.js, .int .i64 k.seq, .int .i64 k.next, .int .i64 k.time, .slice k.a2 k.hist.length k.c2, .slice k.a3 k.seen.length k.c3, .bool k.room]) rfl rfl rfl rfl Tryz.sizeOf39 rfl rfl (Nat.le_of_ble_eq_true rfl) rfl) ?_
  rintro _ _ rfl
  refine JA.takeP 18 rfl (by kernel_rfl) (NP.th NP.body) (by kernel_rfl) (by kernel_rfl) rfl (PO.fieldAddr fo42_7 rfl) ?_
  refine JA.one (i := 19) (by kernel_rfl) ?_
  refine JX.last rfl rfl (by decide) (by kernel_rfl) (JO.store 5 (vs := [.slice a_48 k.seen.length c_49]) (cs' := [.slice a_28 k.store.length c_29, .slice a_38 y_40.length c_39, .slice y_44.a y_44.l.length y_44.c, str y_44.jt, .int .i64 y_44.js, .int .i64 k.seq, .int .i64 k.next, .int .i64 k.time, .slice k.a2 k.hist.length k.c2, .slice a_48 k.seen.length c_49, .bool k.room]) rfl rfl rfl rfl Tryz.sizeOf30 rfl rfl (Nat.le_of_ble_eq_true rfl) rfl) ?_
  rintro _ _ rfl
  refine JQ.seq ?_
  refine JC.seq ?_
  refine JC.region ?_
  refine JL.pure rfl (PO.fieldAddr fo42_6 rfl) ?_
  refine JL.ld rfl (LO.load1 5 (v := .slice k.a2 k.hist.length k.c2) rfl rfl Tryz.isAgg40 rfl) ?_
  refine JL.op rfl (JO.call [] Tryz.call97 rfl (Z_entriesCopy k.a2 k.c2 k.hist (by omega) hm5) rfl (fun w hw => SeesA.cons (hw.seeOut_ hs_10 (fun _ _ => List.not_mem_nil)) (hw.seeOutA hi_11 nMA))) ?_
  rintro _ _ ⟨_, ⟨a_50, c_51, y_52, hy_53, rfl, rfl⟩, rfl⟩
  refine JL.pure rfl (PO.fieldAddr fo42_6 rfl) ?_
  refine JL.op rfl (JO.store 6 (vs := [.slice a_50 y_52.length c_51]) (cs' := [.slice a_28 k.store.length c_29, .slice a_38 y_40.length c_39, .slice y_44.a y_44.l.length y_44.c, str y_44.jt, .int .i64 y_44.js, .int .i64 k.seq, .int .i64 k.next, .int .i64 k.time, .slice a_50 y_52.length c_51, .slice a_48 k.seen.length c_49, .bool k.room]) rfl rfl rfl rfl Tryz.sizeOf40 rfl rfl (Nat.le_of_ble_eq_true rfl) rfl) ?_
  rintro _ _ rfl
  refine JL.nil ?_
  refine JQ.seq ?_
  refine JC.seq ?_
  refine JC.region ?_
  refine JL.ld rfl (LO.loadK 6 (vs := [.slice a_28 k.store.length c_29, .slice a_38 y_40.length c_39, .slice y_44.a y_44.l.length y_44.c, str y_44.jt, .int .i64 y_44.js, .int .i64 k.seq, .int .i64 k.next, .int .i64 k.time, .slice a_50 y_52.length c_51, .slice a_48 k.seen.length c_49, .bool k.room]) rfl rfl Tryz.isAgg42 Tryz.sizeOf42 rfl rfl) ?_
  refine JL.op rfl (JO.store 5 (vs := [.slice a_28 k.store.length c_29, .slice a_38 y_40.length c_39, .slice y_44.a y_44.l.length y_44.c, str y_44.jt, .int .i64 y_44.js, .int .i64 k.seq, .int .i64 k.next, .int .i64 k.time, .slice a_50 y_52.length c_51, .slice a_48 k.seen.length c_49, .bool k.room]) (cs' := [.slice a_28 k.store.length c_29, .slice a_38 y_40.length c_39, .slice y_44.a y_44.l.length y_44.c, str y_44.jt, .int .i64 y_44.js, .int .i64 k.seq, .int .i64 k.next, .int .i64 k.time, .slice a_50 y_52.length c_51, .slice a_48 k.seen.length c_49, .bool k.room]) rfl rfl rfl rfl Tryz.sizeOf42 rfl rfl (Nat.le_of_ble_eq_true rfl) rfl) ?_
  rintro _ _ rfl
  refine JL.nil ?_
  refine JQ.seq ?_
  refine JC.ret ?_
  refine JQ.ghost (L' := [Res.rows (rdsN (⟨a_28, c_29, k.store, a_38, c_39, y_40, y_44, k.seq, k.next, k.time, a_50, c_51, y_52, a_48, c_49, k.seen, k.room⟩ : KX)), bk b_13 42 [.slice a_28 k.store.length c_29, .slice a_38 y_40.length c_39, .slice y_44.a y_44.l.length y_44.c, str y_44.jt, .int .i64 y_44.js, .int .i64 k.seq, .int .i64 k.next, .int .i64 k.time, .slice a_50 y_52.length c_51, .slice a_48 k.seen.length c_49, .bool k.room], bk b_12 42 [.slice a_28 k.store.length c_29, .slice a_38 y_40.length c_39, .slice y_44.a y_44.l.length y_44.c, str y_44.jt, .int .i64 y_44.js, .int .i64 k.seq, .int .i64 k.next, .int .i64 k.time, .slice a_50 y_52.length c_51, .slice a_48 k.seen.length c_49, .bool k.room]]) (fun w hw => hw.gathN [4, 1, 2, 1, 0] rfl) ?_
  refine Done.one (.inl rfl) rfl (RV.cell1 (LO.loadK 1 (vs := [.slice a_28 k.store.length c_29, .slice a_38 y_40.length c_39, .slice y_44.a y_44.l.length y_44.c, str y_44.jt, .int .i64 y_44.js, .int .i64 k.seq, .int .i64 k.next, .int .i64 k.time, .slice a_50 y_52.length c_51, .slice a_48 k.seen.length c_49, .bool k.room]) rfl rfl Tryz.isAgg42 Tryz.sizeOf42 rfl rfl) ⟨_, rfl⟩) (List.sublist_append_left [Res.rows (rdsN (⟨a_28, c_29, k.store, a_38, c_39, y_40, y_44, k.seq, k.next, k.time, a_50, c_51, y_52, a_48, c_49, k.seen, k.room⟩ : KX))] [bk b_13 42 [.slice a_28 k.store.length c_29, .slice a_38 y_40.length c_39, .slice y_44.a y_44.l.length y_44.c, str y_44.jt, .int .i64 y_44.js, .int .i64 k.seq, .int .i64 k.next, .int .i64 k.time, .slice a_50 y_52.length c_51, .slice a_48 k.seen.length c_49, .bool k.room], bk b_12 42 [.slice a_28 k.store.length c_29, .slice a_38 y_40.length c_39, .slice y_44.a y_44.l.length y_44.c, str y_44.jt, .int .i64 y_44.js, .int .i64 k.seq, .int .i64 k.next, .int .i64 k.time, .slice a_50 y_52.length c_51, .slice a_48 k.seen.length c_49, .bool k.room]]) ?_
  exact ⟨(⟨a_28, c_29, k.store, a_38, c_39, y_40, y_44, k.seq, k.next, k.time, a_50, c_51, y_52, a_48, c_49, k.seen, k.room⟩ : KX), by simp only [KX.dat, hy_41, hy_45, hy_53], rfl, rfl⟩

set_option maxRecDepth 4000 in
set_option maxHeartbeats 1000000 in
theorem Z_specl26Copy (k : KX) (hl : k.dat.lim 1000000000) :
    Ct Tryz.prog 32 [.agg #[.slice k.a0 k.store.length k.c0, .slice k.a1 k.txs.length k.c1, .slice k.dk.a k.dk.l.length k.dk.c, str k.dk.jt, .int .i64 k.dk.js, .int .i64 k.seq, .int .i64 k.next, .int .i64 k.time, .slice k.a2 k.hist.length k.c2, .slice k.a3 k.seen.length k.c3, .bool k.room]] [] (fun w => SeesA w (rdsN k)) (fun v A' => ∃ y : KX, y.dat = k.dat ∧ v = .agg #[.slice y.a0 y.store.length y.c0, .slice y.a1 y.txs.length y.c1, .slice y.dk.a y.dk.l.length y.dk.c, str y.dk.jt, .int .i64 y.dk.js, .int .i64 y.seq, .int .i64 y.next, .int .i64 y.time, .slice y.a2 y.hist.length y.c2, .slice y.a3 y.seen.length y.c3, .bool y.room] ∧ A' = [.rows (rdsN y)]) := by
  refine Ct.intro Tryz.func32 rfl Tryz.ntmps32 (Nat.le_of_ble_eq_true rfl) fun w0 hpre => ?_
  obtain ⟨hs_1, hs_2, hs_3, hs_4, hs_5⟩ := seesN hpre
  have hs_6 : Sees w0 (.slice k.a1 k.txs.length k.c1) 10 k.txs.length (k.txs.flatMap encX) := (hs_3).head
  have hi_7 : SeesA w0 (k.txs.flatMap rdsX) := (hs_3).tail
  have hs_8 : Sees w0 (.slice k.dk.a k.dk.l.length k.dk.c) 3 k.dk.l.length (k.dk.l.flatMap encO) := (hs_4).head
  have hi_9 : SeesA w0 (k.dk.l.flatMap rdsO) := (hs_4).tail
  have hs_10 : Sees w0 (.slice k.a2 k.hist.length k.c2) 8 k.hist.length (k.hist.flatMap encE) := (hs_5).head
  have hi_11 : SeesA w0 (k.hist.flatMap rdsE) := (hs_5).tail
  have hm0 : k.store.length ≤ 1000000000 := hl.l0
  have hm6 : k.seen.length ≤ 1000000000 := hl.l6
  have hm1 : k.txs.length ≤ 1000000000 := by have := hl.l1; simpa only [KX.dat, List.length_map] using this
  have hm2 : ∀ q ∈ k.txs, q.t.lim 1000000000 := fun q hq => hl.l2 _ (List.mem_map_of_mem hq)
  have hm4 : k.hist.length ≤ 1000000000 := by have := hl.l4; simpa only [KX.dat, List.length_map] using this
  have hm5 : ∀ q ∈ k.hist, q.t.lim 1000000000 := fun q hq => hl.l5 _ (List.mem_map_of_mem hq)
  refine JC.seq ?_
  refine JC.region ?_
  refine JL.op rfl (JO.box (cs := [.slice k.a0 k.store.length k.c0, .slice k.a1 k.txs.length k.c1, .slice k.dk.a k.dk.l.length k.dk.c, str k.dk.jt, .int .i64 k.dk.js, .int .i64 k.seq, .int .i64 k.next, .int .i64 k.time, .slice k.a2 k.hist.length k.c2, .slice k.a3 k.seen.length k.c3, .bool k.room]) rfl rfl) ?_
  rintro _ _ ⟨b_12, rfl, rfl⟩
  refine JL.op rfl (JO.alloc (z := .agg #[.slice none 0 0, .slice none 0 0, .slice none 0 0, str [], .int .i64 0, .int .i64 0, .int .i64 0, .int .i64 0, .slice none 0 0, .slice none 0 0, .bool false]) (cs := [.slice none 0 0, .slice none 0 0, .slice none 0 0, str [], .int .i64 0, .int .i64 0, .int .i64 0, .int .i64 0, .slice none 0 0, .slice none 0 0, .bool false]) Tryz.zeroValue42 rfl) ?_
  rintro _ _ ⟨b_13, rfl, rfl⟩
  refine JL.nil ?_
  refine JQ.seq ?_
  refine JC.seq ?_
  refine JC.region ?_
  refine JL.op rfl (JO.buildSlice (ps := []) (cur := #[]) Tryz.underlying34 Tryz.sizeOf131 Tryz.zeroValue131 rfl (by kernel_rfl) (by decide) (by decide)) ?_
  rintro _ _ ⟨a_14, rfl, rfl⟩
  refine JL.pure rfl (PO.fieldAddr fo42_0 rfl) ?_
  refine JL.ld rfl (LO.load1 2 (v := .slice k.a0 k.store.length k.c0) rfl rfl Tryz.isAgg34 rfl) ?_
  refine JL.op rfl (JO.append' 0 (q := k.store.length) (news := k.store.flatMap encC) (n' := k.store.length) (cs' := k.store.flatMap encC) rfl Tryz.underlying34 Tryz.underlying34 Tryz.typeInfo131 rfl (by' := 32) rfl rfl rfl rfl rfl (fun w hw => Src.sees (hw.seeOut_ hs_1 (fun _ _ => List.not_mem_nil)) (oneC _)) (by (try simp only [List.length_append, List.length_cons, List.length_nil, List.length_take, List.length_drop]); omega) (by (try simp only [List.length_append, List.length_cons, List.length_nil, List.length_take, List.length_drop]); omega) (by (try simp only [List.length_take, List.length_drop]); first | rfl | omega) rfl) ?_
  rintro _ _ ⟨a_15, c_16, rfl, rfl⟩
  refine JL.pure rfl (PO.fieldAddr fo42_0 rfl) ?_
  refine JL.op rfl (JO.store 2 (vs := [.slice a_15 k.store.length c_16]) (cs' := [.slice a_15 k.store.length c_16, .slice k.a1 k.txs.length k.c1, .slice k.dk.a k.dk.l.length k.dk.c, str k.dk.jt, .int .i64 k.dk.js, .int .i64 k.seq, .int .i64 k.next, .int .i64 k.time, .slice k.a2 k.hist.length k.c2, .slice k.a3 k.seen.length k.c3, .bool k.room]) rfl rfl rfl rfl Tryz.sizeOf34 rfl rfl (Nat.le_of_ble_eq_true rfl) rfl) ?_
  rintro _ _ rfl
  refine JL.nil ?_
  refine JQ.seq ?_
  refine JC.seq ?_
  refine JC.region ?_
  refine JL.pure rfl (PO.fieldAddr fo42_1 rfl) ?_
  refine JL.ld rfl (LO.load1 2 (v := .slice k.a1 k.txs.length k.c1) rfl rfl Tryz.isAgg35 rfl) ?_
  refine JL.op rfl (JO.call [] Tryz.call86 rfl (Z_specl19Copy k.a1 k.c1 k.txs (by omega) hm2) rfl (fun w hw => SeesA.cons (hw.seeOut_ hs_6 (fun _ _ => List.not_mem_nil)) (hw.seeOutA hi_7 nMA))) ?_
  rintro _ _ ⟨_, ⟨a_17, c_18, y_19, hy_20, rfl, rfl⟩, rfl⟩
  refine JL.pure rfl (PO.fieldAddr fo42_1 rfl) ?_
  refine JL.op rfl (JO.store 3 (vs := [.slice a_17 y_19.length c_18]) (cs' := [.slice a_15 k.store.length c_16, .slice a_17 y_19.length c_18, .slice k.dk.a k.dk.l.length k.dk.c, str k.dk.jt, .int .i64 k.dk.js, .int .i64 k.seq, .int .i64 k.next, .int .i64 k.time, .slice k.a2 k.hist.length k.c2, .slice k.a3 k.seen.length k.c3, .bool k.room]) rfl rfl rfl rfl Tryz.sizeOf35 rfl rfl (Nat.le_of_ble_eq_true rfl) rfl) ?_
  rintro _ _ rfl
  refine JL.nil ?_
  refine JQ.seq ?_
  refine JC.seq ?_
  refine JC.region ?_
  refine JL.pure rfl (PO.fieldAddr fo42_2 rfl) ?_
  refine JL.ld rfl (LO.loadK 3 (vs := [.slice k.dk.a k.dk.l.length k.dk.c, str k.dk.jt, .int .i64 k.dk.js]) rfl rfl Tryz.isAgg39 Tryz.sizeOf39 rfl rfl) ?_
  refine JL.op rfl (JO.call [] Tryz.call87 rfl (Z_specl23Copy k.dk hl.l3) rfl (fun w hw => hw.seeOutA hs_4 nMA)) ?_
  rintro _ _ ⟨_, ⟨y_21, hy_22, rfl, rfl⟩, rfl⟩
  refine JL.pure rfl (PO.fieldAddr fo42_2 rfl) ?_
  refine JL.op rfl (JO.store 4 (vs := [.slice y_21.a y_21.l.length y_21.c, str y_21.jt, .int .i64 y_21.js]) (cs' := [.slice a_15 k.store.length c_16, .slice a_17 y_19.length c_18, .slice y_21.a y_21.l.length y_21.c, str y_21.jt, .int .i64 y_21.js, .int .i64 k.seq, .int .i64 k.next, .int .i64 k.time, .slice k.a2 k.hist.length k.c2, .slice k.a3 k.seen.length k.c3, .bool k.room]) rfl rfl rfl rfl Tryz.sizeOf39 rfl rfl (Nat.le_of_ble_eq_true rfl) rfl) ?_
  rintro _ _ rfl
  refine JL.nil ?_
  refine JQ.seq ?_
  refine JC.seq ?_
  refine JC.region ?_
  refine JL.op rfl (JO.buildSlice (ps := []) (cur := #[]) Tryz.underlying40 Tryz.sizeOf129 Tryz.zeroValue129 rfl (by kernel_rfl) (by decide) (by decide)) ?_
  rintro _ _ ⟨a_23, rfl, rfl⟩
  refine JL.pure rfl (PO.assign (v := .slice a_23 0 0) rfl) ?_
  refine JL.nil ?_
  refine JQ.seq ?_
  refine JC.seq ?_
  refine JC.seq ?_
  refine JC.region ?_
  refine JL.pure rfl (PO.assign (v := .int .i64 0) rfl) ?_
  refine JL.nil ?_
  refine JQ.seq ?_
  refine JC.block ?_
  refine JC.ghost (L' := [Res.rows (([] : List EX).flatMap rdsE), Res.row (.slice a_23 0 0) 129 8 0 (([] : List EX).flatMap encE), Res.rows (rdsD y_21), Res.rows (rdsXS a_17 c_18 y_19), rC a_15 c_16 k.store, bk b_13 42 [.slice none 0 0, .slice none 0 0, .slice none 0 0, str [], .int .i64 0, .int .i64 0, .int .i64 0, .int .i64 0, .slice none 0 0, .slice none 0 0, .bool false], bk b_12 42 [.slice a_15 k.store.length c_16, .slice a_17 y_19.length c_18, .slice y_21.a y_21.l.length y_21.c, str y_21.jt, .int .i64 y_21.js, .int .i64 k.seq, .int .i64 k.next, .int .i64 k.time, .slice k.a2 k.hist.length k.c2, .slice k.a3 k.seen.length k.c3, .bool k.room]]) (fun w hw => hw.nilR (α := EX) (f := rdsE) [0] (B := [Res.row (.slice a_23 0 0) 129 8 0 (([] : List EX).flatMap encE)]) (F := [Res.rows (rdsD y_21), Res.rows (rdsXS a_17 c_18 y_19), rC a_15 c_16 k.store, bk b_13 42 [.slice none 0 0, .slice none 0 0, .slice none 0 0, str [], .int .i64 0, .int .i64 0, .int .i64 0, .int .i64 0, .slice none 0 0, .slice none 0 0, .bool false], bk b_12 42 [.slice a_15 k.store.length c_16, .slice a_17 y_19.length c_18, .slice y_21.a y_21.l.length y_21.c, str y_21.jt, .int .i64 y_21.js, .int .i64 k.seq, .int .i64 k.next, .int .i64 k.time, .slice k.a2 k.hist.length k.c2, .slice k.a3 k.seen.length k.c3, .bool k.room]]) rfl) ?_
  refine JC.loop (fun k_ e_ L_ => ∃ j : Nat, ∃ ya : Option Addr, ∃ yc : Nat, ∃ y : List EX, (j ≤ k.hist.length) ∧ (y.map EX.t = (k.hist.take j).map EX.t) ∧ (y.length = j) ∧ e_ 1 = .pointer (some ⟨b_12, 0, none⟩) ∧ e_ 2 = .pointer (some ⟨b_13, 0, none⟩) ∧ e_ 3 = .slice ya y.length yc ∧ e_ 4 = .int .i64 ((j : Nat) : Int) ∧ L_ = [Res.rows (y.flatMap rdsE), Res.row (.slice ya y.length yc) 129 8 y.length (y.flatMap encE), Res.rows (rdsD y_21), Res.rows (rdsXS a_17 c_18 y_19), rC a_15 c_16 k.store, bk b_13 42 [.slice none 0 0, .slice none 0 0, .slice none 0 0, str [], .int .i64 0, .int .i64 0, .int .i64 0, .int .i64 0, .slice none 0 0, .slice none 0 0, .bool false], bk b_12 42 [.slice a_15 k.store.length c_16, .slice a_17 y_19.length c_18, .slice y_21.a y_21.l.length y_21.c, str y_21.jt, .int .i64 y_21.js, .int .i64 k.seq, .int .i64 k.next, .int .i64 k.time, .slice k.a2 k.hist.length k.c2, .slice k.a3 k.seen.length k.c3, .bool k.room]] ∧ k_ = k.hist.length - j) _ ⟨0, a_23, 0, [], by omega, rfl, rfl, rfl, rfl, rfl, rfl, rfl, rfl⟩ ?_
  rintro _ e_24 _ ⟨j, ya, yc, y, hj, hd, hyl, he_25, he_26, he_27, he_28, rfl, rfl⟩
  refine JC.seq ?_
  refine JC.seq ?_
  refine JC.region ?_
  refine JL.pure rfl (PO.move (v := .int .i64 ((j : Nat) : Int)) he_28) ?_
  refine JL.pure rfl (PO.fieldAddr fo42_6 he_25) ?_
  refine JL.ld rfl (LO.load1 6 (v := .slice k.a2 k.hist.length k.c2) rfl rfl Tryz.isAgg40 rfl) ?_
  refine JL.pure rfl (PO.lenV Tryz.underlying40 rfl) ?_
  refine JL.pure rfl (PO.lss rfl rfl) ?_
  refine JL.nil ?_
  refine JQ.seq ?_
  by_cases h_29 : ((j : Nat) : Int) < ((k.hist.length : Nat) : Int)
  · skip
    have hlt : j < k.hist.length := by omega
    refine JC.condT (congrArg Value.bool (decide_eq_true h_29)) ?_
    refine JC.skip ?_
    refine JQ.seq ?_
    refine JC.seq ?_
    refine JC.block ?_
    refine JC.region ?_
    refine JL.pure rfl (PO.move (v := .slice ya y.length yc) he_27) ?_
    refine JL.pure rfl (PO.fieldAddr fo42_6 he_25) ?_
    refine JL.ld rfl (LO.load1 6 (v := .slice k.a2 k.hist.length k.c2) rfl rfl Tryz.isAgg40 rfl) ?_
    refine JL.pure rfl (PO.move (v := .int .i64 ((j : Nat) : Int)) he_28) ?_
    obtain ⟨hr_30, hr_30b, -⟩ := sees_some hs_10 (by omega)
    refine JL.pure rfl (PO.indexAddrV (i := j) Tryz.underlying40 Tryz.sizeOf129 hr_30 hr_30b rfl rfl (by omega)) ?_
    have hi_31 := SeesA.elem hi_11 e0 (show j < k.hist.length by omega)
    obtain ⟨hs_32, hs_33⟩ := seesE hi_31
    refine JL.ld rfl (LO.loadSK (vs := [.int .i64 ((k.hist.getD j e0).t.seq), .int .i64 ((k.hist.getD j e0).t.kind), .int .i64 ((k.hist.getD j e0).t.tx), .slice ((k.hist.getD j e0).x.a0) ((k.hist.getD j e0).t.steps.length) ((k.hist.getD j e0).x.c0), .slice ((k.hist.getD j e0).x.a1) ((k.hist.getD j e0).t.ans.length) ((k.hist.getD j e0).x.c1), .int .i64 ((k.hist.getD j e0).t.began), .int .i64 ((k.hist.getD j e0).t.ended), .bool ((k.hist.getD j e0).t.laid)]) hs_10 (fun _ _ => List.not_mem_nil) rfl Tryz.isAgg129 Tryz.sizeOf129 (flat_take encE_len e0 k.hist j (by omega)) rfl (by decide)) ?_
    refine JL.op rfl (JO.call [] Tryz.call88 rfl (Z_specl26Entry (k.hist.getD j e0) (hm5 _ (getD_mem (show j < k.hist.length by omega)))) rfl (fun w hw => hw.seeOutA hi_31 nMA)) ?_
    rintro _ _ ⟨_, ⟨y_34, hy_35, rfl, rfl⟩, rfl⟩
    refine JL.op rfl (JO.buildSlice (ps := [(0, .agg #[.int .i64 y_34.t.seq, .int .i64 y_34.t.kind, .int .i64 y_34.t.tx, .slice y_34.x.a0 y_34.t.steps.length y_34.x.c0, .slice y_34.x.a1 y_34.t.ans.length y_34.x.c1, .int .i64 y_34.t.began, .int .i64 y_34.t.ended, .bool y_34.t.laid])]) (cur := #[.int .i64 y_34.t.seq, .int .i64 y_34.t.kind, .int .i64 y_34.t.tx, .slice y_34.x.a0 y_34.t.steps.length y_34.x.c0, .slice y_34.x.a1 y_34.t.ans.length y_34.x.c1, .int .i64 y_34.t.began, .int .i64 y_34.t.ended, .bool y_34.t.laid]) Tryz.underlying40 Tryz.sizeOf129 Tryz.zeroValue129 rfl (by kernel_rfl) (by decide) (by decide)) ?_
    rintro _ _ ⟨a_36, rfl, rfl⟩
    refine JL.op rfl (JO.append' 3 (q := 1) (news := ([y_34] : List EX).flatMap encE) (n' := (y ++ ([y_34] : List EX)).length) (cs' := (y ++ ([y_34] : List EX)).flatMap encE) rfl Tryz.underlying40 Tryz.underlying40 Tryz.typeInfo129 rfl (by' := 96) rfl rfl rfl rfl rfl (fun w hw => Src.sees (hw.see (i := 0) rfl) (oneE _)) (by (try simp only [List.length_append, List.length_cons, List.length_nil, List.length_take, List.length_drop]); omega) (by (try simp only [List.length_append, List.length_cons, List.length_nil, List.length_take, List.length_drop]); omega) (by simp only [List.length_append, List.length_take, List.length_drop, List.length_cons, List.length_nil] <;> first | rfl | omega) (by simp only [List.flatMap_append])) ?_
    rintro _ _ ⟨a_37, c_38, rfl, rfl⟩
    refine JL.pure rfl (PO.assign (v := .slice a_37 ((y ++ ([y_34] : List EX)).length) c_38) rfl) ?_
    refine JL.nil ?_
    refine JQ.blockN ?_
    refine JQ.seq ?_
    refine JC.region ?_
    refine JL.pure rfl (PO.move (v := .int .i64 ((j : Nat) : Int)) he_28) ?_
    refine JL.pure rfl (PO.add (c := ((j + 1 : Nat) : Int)) rfl rfl (wr (by omega))) ?_
    refine JL.pure rfl (PO.assign (v := .int .i64 ((j + 1 : Nat) : Int)) rfl) ?_
    refine JL.nil ?_
    refine JQ.ghost (L' := [Res.rows ((y ++ [y_34]).flatMap rdsE), Res.row (.slice a_36 1 1) 129 8 1 (([y_34] : List EX).flatMap encE), Res.row (.slice a_37 ((y ++ ([y_34] : List EX)).length) c_38) 129 8 ((y ++ ([y_34] : List EX)).length) ((y ++ ([y_34] : List EX)).flatMap encE), Res.rows (rdsD y_21), Res.rows (rdsXS a_17 c_18 y_19), rC a_15 c_16 k.store, bk b_13 42 [.slice none 0 0, .slice none 0 0, .slice none 0 0, str [], .int .i64 0, .int .i64 0, .int .i64 0, .int .i64 0, .slice none 0 0, .slice none 0 0, .bool false], bk b_12 42 [.slice a_15 k.store.length c_16, .slice a_17 y_19.length c_18, .slice y_21.a y_21.l.length y_21.c, str y_21.jt, .int .i64 y_21.js, .int .i64 k.seq, .int .i64 k.next, .int .i64 k.time, .slice k.a2 k.hist.length k.c2, .slice k.a3 k.seen.length k.c3, .bool k.room]]) (fun w hw => hw.addR [2, 1] rfl flatMap_snoc) ?_
    refine JQ.pick [0, 1, 1, 1, 1, 1, 1] (A := [Res.rows ((y ++ [y_34]).flatMap rdsE), Res.row (.slice a_37 ((y ++ ([y_34] : List EX)).length) c_38) 129 8 ((y ++ [y_34]).length) ((y ++ [y_34]).flatMap encE), Res.rows (rdsD y_21), Res.rows (rdsXS a_17 c_18 y_19), rC a_15 c_16 k.store, bk b_13 42 [.slice none 0 0, .slice none 0 0, .slice none 0 0, str [], .int .i64 0, .int .i64 0, .int .i64 0, .int .i64 0, .slice none 0 0, .slice none 0 0, .bool false], bk b_12 42 [.slice a_15 k.store.length c_16, .slice a_17 y_19.length c_18, .slice y_21.a y_21.l.length y_21.c, str y_21.jt, .int .i64 y_21.js, .int .i64 k.seq, .int .i64 k.next, .int .i64 k.time, .slice k.a2 k.hist.length k.c2, .slice k.a3 k.seen.length k.c3, .bool k.room]]) rfl ?_
    refine JQ.again (k.hist.length - (j + 1)) (by omega) ⟨j + 1, a_37, c_38, (y ++ [y_34]), by omega, (map_take_succ e0 hd hlt hy_35), (by rw [List.length_append, hyl]; rfl), he_25, he_26, rfl, rfl, rfl, rfl⟩
  · skip
    refine JC.condF (congrArg Value.bool (decide_eq_false h_29)) ?_
    refine JC.exit ?_
    refine JQ.thenExit ?_
    refine JQ.thenExit ?_
    refine JQ.blockE ?_
    refine JQ.seq ?_
    refine JC.seq ?_
    refine JC.region ?_
    refine JL.pure rfl (PO.move (v := .slice ya y.length yc) he_27) ?_
    refine JL.pure rfl (PO.fieldAddr fo42_6 he_25) ?_
    refine JL.op rfl (JO.store 6 (vs := [.slice ya y.length yc]) (cs' := [.slice a_15 k.store.length c_16, .slice a_17 y_19.length c_18, .slice y_21.a y_21.l.length y_21.c, str y_21.jt, .int .i64 y_21.js, .int .i64 k.seq, .int .i64 k.next, .int .i64 k.time, .slice ya y.length yc, .slice k.a3 k.seen.length k.c3, .bool k.room]) rfl rfl rfl rfl Tryz.sizeOf40 rfl rfl (Nat.le_of_ble_eq_true rfl) rfl) ?_
    rintro _ _ rfl
    refine JL.nil ?_
    refine JQ.seq ?_
    refine JC.seq ?_
    refine JC.region ?_
    refine JL.op rfl (JO.buildSlice (ps := []) (cur := #[]) Tryz.underlying30 Tryz.sizeOf9 Tryz.zeroValue9 rfl (by kernel_rfl) (by decide) (by decide)) ?_
    rintro _ _ ⟨a_39, rfl, rfl⟩
    refine JL.pure rfl (PO.fieldAddr fo42_7 he_25) ?_
    refine JL.ld rfl (LO.load1 7 (v := .slice k.a3 k.seen.length k.c3) rfl rfl Tryz.isAgg30 rfl) ?_
    refine JL.op rfl (JO.append' 0 (q := k.seen.length) (news := k.seen.map str) (n' := k.seen.length) (cs' := k.seen.map str) rfl Tryz.underlying30 Tryz.underlying30 Tryz.typeInfo9 rfl (by' := 16) rfl rfl rfl rfl rfl (fun w hw => Src.sees (hw.seeOut_ hs_2 (fun _ _ => List.not_mem_nil)) (oneS _)) (by (try simp only [List.length_append, List.length_cons, List.length_nil, List.length_take, List.length_drop]); omega) (by (try simp only [List.length_append, List.length_cons, List.length_nil, List.length_take, List.length_drop]); omega) (by (try simp only [List.length_take, List.length_drop]); first | rfl | omega) rfl) ?_
    rintro _ _ ⟨a_40, c_41, rfl, rfl⟩
    refine JL.pure rfl (PO.fieldAddr fo42_7 he_25) ?_
    refine JL.op rfl (JO.store 7 (vs := [.slice a_40 k.seen.length c_41]) (cs' := [.slice a_15 k.store.length c_16, .slice a_17 y_19.length c_18, .slice y_21.a y_21.l.length y_21.c, str y_21.jt, .int .i64 y_21.js, .int .i64 k.seq, .int .i64 k.next, .int .i64 k.time, .slice ya y.length yc, .slice a_40 k.seen.length c_41, .bool k.room]) rfl rfl rfl rfl Tryz.sizeOf30 rfl rfl (Nat.le_of_ble_eq_true rfl) rfl) ?_
    rintro _ _ rfl
    refine JL.nil ?_
    refine JQ.seq ?_
    refine JC.seq ?_
    refine JC.region ?_
    refine JL.ld rfl (LO.loadK 7 (vs := [.slice a_15 k.store.length c_16, .slice a_17 y_19.length c_18, .slice y_21.a y_21.l.length y_21.c, str y_21.jt, .int .i64 y_21.js, .int .i64 k.seq, .int .i64 k.next, .int .i64 k.time, .slice ya y.length yc, .slice a_40 k.seen.length c_41, .bool k.room]) rfl he_25 Tryz.isAgg42 Tryz.sizeOf42 rfl rfl) ?_
    refine JL.op rfl (JO.store 6 (vs := [.slice a_15 k.store.length c_16, .slice a_17 y_19.length c_18, .slice y_21.a y_21.l.length y_21.c, str y_21.jt, .int .i64 y_21.js, .int .i64 k.seq, .int .i64 k.next, .int .i64 k.time, .slice ya y.length yc, .slice a_40 k.seen.length c_41, .bool k.room]) (cs' := [.slice a_15 k.store.length c_16, .slice a_17 y_19.length c_18, .slice y_21.a y_21.l.length y_21.c, str y_21.jt, .int .i64 y_21.js, .int .i64 k.seq, .int .i64 k.next, .int .i64 k.time, .slice ya y.length yc, .slice a_40 k.seen.length c_41, .bool k.room]) rfl he_26 rfl rfl Tryz.sizeOf42 rfl rfl (Nat.le_of_ble_eq_true rfl) rfl) ?_
    rintro _ _ rfl
    refine JL.nil ?_
    refine JQ.seq ?_
    refine JC.ret ?_
    refine JQ.ghost (L' := [Res.rows (rdsES ya yc y), rS a_40 c_41 k.seen, Res.rows (rdsD y_21), Res.rows (rdsXS a_17 c_18 y_19), rC a_15 c_16 k.store, bk b_13 42 [.slice a_15 k.store.length c_16, .slice a_17 y_19.length c_18, .slice y_21.a y_21.l.length y_21.c, str y_21.jt, .int .i64 y_21.js, .int .i64 k.seq, .int .i64 k.next, .int .i64 k.time, .slice ya y.length yc, .slice a_40 k.seen.length c_41, .bool k.room], bk b_12 42 [.slice a_15 k.store.length c_16, .slice a_17 y_19.length c_18, .slice y_21.a y_21.l.length y_21.c, str y_21.jt, .int .i64 y_21.js, .int .i64 k.seq, .int .i64 k.next, .int .i64 k.time, .slice ya y.length yc, .slice a_40 k.seen.length c_41, .bool k.room]]) (fun w hw => hw.consR (r := ⟨.slice ya y.length yc, 129, 8, y.length, y.flatMap encE⟩) (A := y.flatMap rdsE) [2, 1] rfl) ?_
    refine JQ.ghost (L' := [Res.rows (rdsN (⟨a_15, c_16, k.store, a_17, c_18, y_19, y_21, k.seq, k.next, k.time, ya, yc, y, a_40, c_41, k.seen, k.room⟩ : KX)), bk b_13 42 [.slice a_15 k.store.length c_16, .slice a_17 y_19.length c_18, .slice y_21.a y_21.l.length y_21.c, str y_21.jt, .int .i64 y_21.js, .int .i64 k.seq, .int .i64 k.next, .int .i64 k.time, .slice ya y.length yc, .slice a_40 k.seen.length c_41, .bool k.room], bk b_12 42 [.slice a_15 k.store.length c_16, .slice a_17 y_19.length c_18, .slice y_21.a y_21.l.length y_21.c, str y_21.jt, .int .i64 y_21.js, .int .i64 k.seq, .int .i64 k.next, .int .i64 k.time, .slice ya y.length yc, .slice a_40 k.seen.length c_41, .bool k.room]]) (fun w hw => hw.gathN [4, 1, 2, 1, 0] rfl) ?_
    refine Done.one (.inl rfl) rfl (RV.cell1 (LO.loadK 1 (vs := [.slice a_15 k.store.length c_16, .slice a_17 y_19.length c_18, .slice y_21.a y_21.l.length y_21.c, str y_21.jt, .int .i64 y_21.js, .int .i64 k.seq, .int .i64 k.next, .int .i64 k.time, .slice ya y.length yc, .slice a_40 k.seen.length c_41, .bool k.room]) rfl he_26 Tryz.isAgg42 Tryz.sizeOf42 rfl rfl) ⟨_, he_26⟩) (List.sublist_append_left [Res.rows (rdsN (⟨a_15, c_16, k.store, a_17, c_18, y_19, y_21, k.seq, k.next, k.time, ya, yc, y, a_40, c_41, k.seen, k.room⟩ : KX))] [bk b_13 42 [.slice a_15 k.store.length c_16, .slice a_17 y_19.length c_18, .slice y_21.a y_21.l.length y_21.c, str y_21.jt, .int .i64 y_21.js, .int .i64 k.seq, .int .i64 k.next, .int .i64 k.time, .slice ya y.length yc, .slice a_40 k.seen.length c_41, .bool k.room], bk b_12 42 [.slice a_15 k.store.length c_16, .slice a_17 y_19.length c_18, .slice y_21.a y_21.l.length y_21.c, str y_21.jt, .int .i64 y_21.js, .int .i64 k.seq, .int .i64 k.next, .int .i64 k.time, .slice ya y.length yc, .slice a_40 k.seen.length c_41, .bool k.room]]) ?_
    have hda := map_all hd (show k.hist.length ≤ j by omega)
    exact ⟨(⟨a_15, c_16, k.store, a_17, c_18, y_19, y_21, k.seq, k.next, k.time, ya, yc, y, a_40, c_41, k.seen, k.room⟩ : KX), by simp only [KX.dat, hy_20, hy_22, hda], rfl, rfl⟩

end Go.Proofs.YtkmpmjficoohkaaGreat

set_option linter.unusedSimpArgs false
set_option linter.unusedVariables false
set_option linter.unnecessarySimpa false
namespace Go.Proofs.YtkmpmjficoohkaaGreat
open Go Go.RowKit
/-- The place of the first of which P says yes, or -1. -/
def idxT (P : TD → Prop) [DecidablePred P] (l : List TD) : Int := idxI (fun t => decide (P t)) l
abbrev findT (l : List TD) (id : Int) : Int := idxT (fun t => t.id = id) l
theorem findAt_map {α β : Type} {f : α → β} {p : β → Bool} : ∀ l : List α, findAt p (l.map f) = findAt (fun x => p (f x)) l
  | [] => rfl
  | x :: l => by simp only [List.map_cons, findAt, findAt_map l]
theorem idxT_none {P : TD → Prop} [DecidablePred P] {l : List TX} {j : Nat} (hj : l.length ≤ j) (hN : ∀ i, i < j → ¬ P (l.getD i x0).t) : idxT P (l.map TX.t) = -1 := by
  have := idxI_none (p := fun x : TX => decide (P x.t)) x0 hj (fun i hi => decide_eq_false (hN i hi))
  unfold idxT idxI at *
  rw [findAt_map, List.length_map]
  exact this
theorem idxT_found {P : TD → Prop} [DecidablePred P] {l : List TX} {j : Nat} (hj : j < l.length) (hN : ∀ i, i < j → ¬ P (l.getD i x0).t) (h : P (l.getD j x0).t) : idxT P (l.map TX.t) = ((j : Nat) : Int) := by
  have := idxI_found (p := fun x : TX => decide (P x.t)) x0 hj (fun i hi => decide_eq_false (hN i hi)) (decide_eq_true h)
  unfold idxT idxI at *
  rw [findAt_map, List.length_map]
  exact this
theorem idxT_lo (P : TD → Prop) [DecidablePred P] (l : List TD) : -1 ≤ idxT P l ∧ idxT P l < ((l.length : Nat) : Int) := by
  unfold idxT
  rcases idxI_lo (fun t => decide (P t)) l with ⟨h, _⟩ | ⟨h, h2⟩ <;> rw [h] <;> omega
theorem idxT_lt {P : TD → Prop} [DecidablePred P] {l : List TX} {n : Nat} (h : idxT P (l.map TX.t) = ((n : Nat) : Int)) : n < l.length := by
  have := idxT_lo P (l.map TX.t)
  rw [h, List.length_map] at this
  omega
theorem KX.txs_len {y k : KX} (h : y.dat = k.dat) : y.txs.length = k.txs.length := by
  have e := congrArg (fun d : KD => d.txs.length) h
  simpa only [KX.dat, List.length_map] using e
def KD.setTx (k : KD) (n : Nat) (t : TD) : KD := { k with txs := k.txs.set n t }
def KD.withT (k : KD) (t : TD) : KD := if 0 ≤ findT k.txs t.id then k.setTx (findT k.txs t.id).toNat t else k
theorem KD.withT_pos {k : KD} {t : TD} {n : Nat} (h : findT k.txs t.id = ((n : Nat) : Int)) : k.withT t = k.setTx n t := by
  unfold KD.withT
  rw [h, if_pos (by omega), Int.toNat_natCast]
theorem KD.withT_neg {k : KD} {t : TD} (h : ¬ 0 ≤ findT k.txs t.id) : k.withT t = k := if_neg h
theorem mem_setT {α : Type} {l : List α} {n : Nat} {x y : α} (h : y ∈ l.set n x) : y ∈ l ∨ y = x := List.mem_or_eq_of_mem_set h
theorem KD.setTx_lim {k : KD} {n m : Nat} {t : TD} (h : k.lim m) (ht : t.lim m) : (k.setTx n t).lim m := ⟨h.l0, by simpa only [KD.setTx, List.length_set] using h.l1, fun y hy => by
  rcases mem_setT hy with hy | rfl
  · exact h.l2 y hy
  · exact ht, h.l3, h.l4, h.l5, h.l6⟩
theorem cntV_set {α : Type} {ct : α → Nat} : ∀ (l : List α) (n : Nat) (x : α), cntV ct (l.set n x) ≤ cntV ct l + ct x
  | [], n, x => by simp [cntV]
  | y :: l, 0, x => by simp only [List.set_cons_zero, cntV]; omega
  | y :: l, n + 1, x => by have := cntV_set l n x (ct := ct); simp only [List.set_cons_succ, cntV]; omega
theorem KD.setTx_cnt (k : KD) (n : Nat) (t : TD) : (k.setTx n t).cnt ≤ k.cnt + cntXd t := by
  have := cntV_set (ct := cntXd) k.txs n t
  simp only [KD.setTx, KD.cnt]
  omega
theorem KD.withT_lim {k : KD} {m : Nat} {t : TD} (h : k.lim m) (ht : t.lim m) : (k.withT t).lim m := by
  unfold KD.withT
  split
  · exact KD.setTx_lim h ht
  · exact h
theorem KD.withT_cnt (k : KD) (t : TD) : (k.withT t).cnt ≤ k.cnt + cntXd t := by
  unfold KD.withT
  split
  · exact KD.setTx_cnt _ _ _
  · omega
theorem map_setT {l : List TX} {n : Nat} {x : TX} : (l.set n x).map TX.t = (l.map TX.t).set n x.t := List.map_set
end Go.Proofs.YtkmpmjficoohkaaGreat
