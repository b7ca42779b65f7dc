/-
  Texts of the walk, joined: what each one proves stands at its theorems.
-/
import Derived.Test.YthdgcbdfcclgbaaGreatDoorSc
set_option linter.unusedSimpArgs false
set_option linter.unusedVariables false
set_option linter.unnecessarySimpa false
namespace Go.Proofs.YthdgcbdfcclgbaaGreatDoor
open Go Go.RowKit
attribute [local irreducible] JL JC JQ JO LO PO JA JX Ct

theorem C_within (n lo hi : Int) :
    Ct Tryz.prog 120 [.int .i64 n, .int .i64 lo, .int .i64 hi] [] (fun _ => True) (fun v A' => v = .bool (decide (lo ≤ n) && decide (n ≤ hi)) ∧ A' = []) := by
  refine Ct.intro Tryz.func120 rfl Tryz.ntmps120 (lb rfl) fun w0 hpre => ?_
  refine jD <| jF <| jA (jG (v := .bool false) rfl) <| jE <| jB <| jD <| jF <| jA (jC (v := iv n) rfl) <| jA (jC (v := iv lo) rfl) <| jA (kT rfl rfl) ?_
  refine jA (jC (v := .bool (decide (lo ≤ n))) rfl) ?_
  by_cases h_1 : lo ≤ n
  · refine jb rfl rfl rfl (cB (dT h_1)) (ja (jd (jC (v := iv n) rfl))) ?_
    rintro _ _ ⟨rfl, rfl⟩
    refine jb rfl rfl rfl (cB (dT h_1)) (ja (jd (jC (v := iv hi) rfl))) ?_
    rintro _ _ ⟨rfl, rfl⟩
    refine jb rfl rfl rfl (cB (dT h_1)) (ja (jd (PO.leq rfl rfl))) ?_
    rintro _ _ ⟨rfl, rfl⟩
    refine jA (jx (v := .bool (decide (n ≤ hi))) (cB (dT h_1)) rfl) <| jA (jG (v := .bool (decide (n ≤ hi))) rfl) <| jE <| jB <| jM <| jV (.inl rfl) rfl (jN (v := .bool (decide (n ≤ hi))) rfl) (List.nil_sublist _) ?_
    refine ⟨?_, rfl⟩
    simp_all <;> omega
  refine jY (b := false) rfl rfl rfl (cB (dF h_1)) <| jY (b := false) rfl rfl rfl (cB (dF h_1)) <| jY (b := false) rfl rfl rfl (cB (dF h_1)) <| jA (jw (v := .bool false) (cB (dF h_1)) rfl) <| jA (jG (v := .bool false) rfl) <| jE <| jB <| jM <| jV (.inl rfl) rfl (jN (v := .bool false) rfl) (List.nil_sublist _) ?_
  refine ⟨?_, rfl⟩
  simp_all <;> omega

theorem C_keyOk (key : Str) (hk : key.length ≤ 1000000000000) :
    Ct Tryz.prog 173 [str key] [] (fun _ => True) (fun v A' => v = .bool (keyOk key) ∧ A' = []) := by
  refine Ct.intro Tryz.func173 rfl Tryz.ntmps173 (lb rfl) fun w0 hpre => ?_
  refine jD <| jF <| jA (jG (v := .bool false) rfl) <| jE <| jB <| jD <| jD <| jF <| jA (jC (v := str key) rfl) <| jA (kJ kY rfl) ?_
  refine jA (jC (v := iv 0) rfl) <| jE <| jB <| jm <| kE (fun k_ e_ L_ => ∃ j : Nat, (j ≤ key.length) ∧ (∀ i, i < j → i < key.length → keyByte (key.getD i 0) = true) ∧ e_ 0 = str key ∧ e_ 5 = iv (key.length : Int) ∧ e_ 6 = nv j ∧ L_ = [] ∧ k_ = key.length - j) _ ⟨0, by omega, (fun i hi => absurd hi (Nat.not_lt_zero i)), rfl, rfl, rfl, rfl, rfl⟩ ?_
  rintro _ e_1 _ ⟨j, hj, hN, he_2, he_3, he_4, rfl, rfl⟩
  refine jD <| jF <| jA (js he_4 he_3) <| jE <| jB <| jD ?_
  by_cases h_5 : ((j : Nat) : Int) < (key.length : Int)
  · refine jR (cB (dT h_5)) <| jU <| jB <| jD <| jm <| jD <| jF <| jA (jC (v := nv j) he_4) <| jA (jG (v := nv j) rfl) <| jE ?_
    refine jB <| jD <| jF <| jA (jC (v := str key) he_2) <| jA (jC (v := nv j) rfl) <| jA (PO.indexS (i := j) (c := key.getD j 0) kY rfl rfl (getD_some (by omega))) ?_
    have hu_6 := UInt8.toNat_lt (key.getD j 0)
    refine jA (js rfl rfl) <| jA (jC (v := .bool (decide (((key.getD j 0).toNat : Int) < 33))) rfl) ?_
    by_cases h_7 : ((key.getD j 0).toNat : Int) < 33
    · refine jY (b := true) rfl rfl rfl (cB (dT h_7)) <| jY (b := true) rfl rfl rfl (cB (dT h_7)) <| jY (b := true) rfl rfl rfl (cB (dT h_7)) <| jY (b := true) rfl rfl rfl (cB (dT h_7)) <| jA (jx (v := .bool true) (cB (dT h_7)) rfl) <| jA (jC (v := .bool true) rfl) <| jY (b := true) rfl rfl rfl (cB rfl) <| jY (b := true) rfl rfl rfl (cB rfl) <| jY (b := true) rfl rfl rfl (cB rfl) <| jY (b := true) rfl rfl rfl (cB rfl) ?_
      refine jA (jx (v := .bool true) (cB rfl) rfl) <| jE <| jB <| jR (cB rfl) <| jD <| jF <| jA (jG (v := .bool false) rfl) <| jE <| jB <| jM ?_
      refine jz <| jX <| jX <| jz <| jX <| jV (.inl rfl) rfl (jN (v := .bool false) rfl) (List.nil_sublist _) ?_
      refine ⟨?_, rfl⟩
      rw [keyOk_bad (j := j) (by omega) (by simp only [keyByte, Bool.and_eq_true, Bool.and_eq_false_iff, decide_eq_true_eq, decide_eq_false_iff_not, Bool.not_eq_true', Bool.not_eq_false']; omega)]
    refine jb rfl rfl rfl (cB (dF h_7)) (ja (jd (jC (v := str key) he_2))) ?_
    rintro _ _ ⟨rfl, rfl⟩
    refine jb rfl rfl rfl (cB (dF h_7)) (ja (jd (jC (v := nv j) rfl))) ?_
    rintro _ _ ⟨rfl, rfl⟩
    refine jb rfl rfl rfl (cB (dF h_7)) (ja (jd (PO.indexS (i := j) (c := key.getD j 0) kY rfl rfl (getD_some (by omega))))) ?_
    rintro _ _ ⟨rfl, rfl⟩
    have hu_8 := UInt8.toNat_lt (key.getD j 0)
    refine jb rfl rfl rfl (cB (dF h_7)) (ja (jd (kS rfl rfl))) ?_
    rintro _ _ ⟨rfl, rfl⟩
    refine jA (jw (v := .bool (decide (126 < ((key.getD j 0).toNat : Int)))) (cB (dF h_7)) rfl) <| jA (jC (v := .bool (decide (126 < ((key.getD j 0).toNat : Int)))) rfl) ?_
    by_cases h_9 : 126 < ((key.getD j 0).toNat : Int)
    · refine jY (b := true) rfl rfl rfl (cB (dT h_9)) <| jY (b := true) rfl rfl rfl (cB (dT h_9)) <| jY (b := true) rfl rfl rfl (cB (dT h_9)) <| jY (b := true) rfl rfl rfl (cB (dT h_9)) <| jA (jx (v := .bool true) (cB (dT h_9)) rfl) <| jE <| jB <| jR (cB rfl) <| jD <| jF ?_
      refine jA (jG (v := .bool false) rfl) <| jE <| jB <| jM <| jz <| jX <| jX <| jz <| jX <| jV (.inl rfl) rfl (jN (v := .bool false) rfl) (List.nil_sublist _) ?_
      refine ⟨?_, rfl⟩
      rw [keyOk_bad (j := j) (by omega) (by simp only [keyByte, Bool.and_eq_true, Bool.and_eq_false_iff, decide_eq_true_eq, decide_eq_false_iff_not, Bool.not_eq_true', Bool.not_eq_false']; omega)]
    refine jb rfl rfl rfl (cB (dF h_9)) (ja (jd (jC (v := str key) he_2))) ?_
    rintro _ _ ⟨rfl, rfl⟩
    refine jb rfl rfl rfl (cB (dF h_9)) (ja (jd (jC (v := nv j) rfl))) ?_
    rintro _ _ ⟨rfl, rfl⟩
    refine jb rfl rfl rfl (cB (dF h_9)) (ja (jd (PO.indexS (i := j) (c := key.getD j 0) kY rfl rfl (getD_some (by omega))))) ?_
    rintro _ _ ⟨rfl, rfl⟩
    have hu_10 := UInt8.toNat_lt (key.getD j 0)
    refine jb rfl rfl rfl (cB (dF h_9)) (ja (jd (ju rfl rfl))) ?_
    rintro _ _ ⟨rfl, rfl⟩
    refine jA (jw (v := .bool (decide (((key.getD j 0).toNat : Int) = 42))) (cB (dF h_9)) rfl) <| jE <| jB ?_
    by_cases h_11 : ((key.getD j 0).toNat : Int) = 42
    · refine jR (cB (dT h_11)) <| jD <| jF <| jA (jG (v := .bool false) rfl) <| jE <| jB <| jM <| jz <| jX <| jX ?_
      refine jz <| jX <| jV (.inl rfl) rfl (jN (v := .bool false) rfl) (List.nil_sublist _) ?_
      refine ⟨?_, rfl⟩
      rw [keyOk_bad (j := j) (by omega) (by simp only [keyByte, Bool.and_eq_true, Bool.and_eq_false_iff, decide_eq_true_eq, decide_eq_false_iff_not, Bool.not_eq_true', Bool.not_eq_false']; omega)]
    refine jQ (cB (dF h_11)) <| jU <| jk <| jB <| jF <| jA (jg (c := ((j + 1 : Nat) : Int)) he_4 rfl (wr (by omega))) <| jA (jC (v := iv ((j + 1 : Nat) : Int)) rfl) <| jE ?_
    refine jt (key.length - (j + 1)) (by omega) ⟨j + 1, by omega, (fun i hi hl => if h : i = j then h ▸ (by simp only [keyByte, Bool.and_eq_true, Bool.and_eq_false_iff, decide_eq_true_eq, decide_eq_false_iff_not, Bool.not_eq_true', Bool.not_eq_false']; omega : keyByte (key.getD j 0) = true) else hN i (by omega) hl), he_2, he_3, rfl, rfl, rfl⟩
  refine jQ (cB (dF h_5)) <| kB <| jn <| jn <| kC <| jB <| jD <| jF <| jA (jC (v := str key) he_2) <| jA (kJ kY rfl) ?_
  refine jH rfl (jI [] Tryz.call120 rfl (C_within (key.length : Int) 1 40) rfl (fun _ _ => trivial)) ?_
  rintro _ _ ⟨_, ⟨rfl, rfl⟩, rfl⟩
  refine jA (jG (v := .bool (decide (1 ≤ (key.length : Int)) && decide ((key.length : Int) ≤ 40))) rfl) <| jE <| jB <| jM <| jV (.inl rfl) rfl (jN (v := .bool (decide (1 ≤ (key.length : Int)) && decide ((key.length : Int) ≤ 40))) rfl) (List.nil_sublist _) ?_
  refine ⟨?_, rfl⟩
  rw [keyOk_good (j := j) (by omega) hN]
  exact cB (by congr 1 <;> exact decide_eq_decide.2 (by omega))

theorem C_cellAt1 (kb : Nat) (key : Str) (x : Cell) :
    Ct Tryz.prog 196 [.agg #[str x.1, str x.2], .pointer (some ⟨kb, 0, none⟩)] [bk kb 9 [str key]] (fun _ => True) (fun v A' => v = .bool (decide (x.1 = key)) ∧ A' = [bk kb 9 [str key]]) := by
  refine Ct.intro Tryz.func196 rfl Tryz.ntmps196 (lb rfl) fun w0 hpre => ?_
  refine jD <| jF ?_
  refine jH rfl (jv (cs := [str x.1, str x.2]) rfl rfl) ?_
  rintro _ _ ⟨b_1, rfl, rfl⟩
  refine jA (jG (v := .bool false) rfl) <| jE <| jB <| jD <| jF <| jA (jZ fo80_0 rfl) <| jT (ji 0 (v := str x.1) rfl rfl kZ rfl) <| jT (ji 1 (v := str key) rfl rfl kZ rfl) <| jA (PO.eqlS rfl rfl) <| jA (jG (v := .bool (decide (x.1 = key))) rfl) ?_
  refine jE <| jB <| jM <| kL (pick_perm [1] (A := [bk kb 9 [str key]]) (F := [bk b_1 80 [str x.1, str x.2]]) rfl).symm <| jV (.inl rfl) rfl (jN (v := .bool (decide (x.1 = key))) rfl) (sL [bk kb 9 [str key]] [bk b_1 80 [str x.1, str x.2]]) ?_
  exact ⟨rfl, rfl⟩

theorem C_put1 (kb : Nat) (key : Str) (x : Cell) :
    Ct Tryz.prog 175 [.agg #[str x.1, str x.2], .pointer (some ⟨kb, 0, none⟩)] [bk kb 9 [str key]] (fun _ => True) (fun v A' => v = .bool (decide (x.1 = key)) ∧ A' = [bk kb 9 [str key]]) := by
  refine Ct.intro Tryz.func175 rfl Tryz.ntmps175 (lb rfl) fun w0 hpre => ?_
  refine jD <| jF ?_
  refine jH rfl (jv (cs := [str x.1, str x.2]) rfl rfl) ?_
  rintro _ _ ⟨b_1, rfl, rfl⟩
  refine jA (jG (v := .bool false) rfl) <| jE <| jB <| jD <| jF <| jA (jZ fo80_0 rfl) <| jT (ji 0 (v := str x.1) rfl rfl kZ rfl) <| jT (ji 1 (v := str key) rfl rfl kZ rfl) <| jA (PO.eqlS rfl rfl) <| jA (jG (v := .bool (decide (x.1 = key))) rfl) ?_
  refine jE <| jB <| jM <| kL (pick_perm [1] (A := [bk kb 9 [str key]]) (F := [bk b_1 80 [str x.1, str x.2]]) rfl).symm <| jV (.inl rfl) rfl (jN (v := .bool (decide (x.1 = key))) rfl) (sL [bk kb 9 [str key]] [bk b_1 80 [str x.1, str x.2]]) ?_
  exact ⟨rfl, rfl⟩

theorem C_put2 (kb : Nat) (key : Str) (x : Cell) :
    Ct Tryz.prog 177 [.agg #[str x.1, str x.2], .pointer (some ⟨kb, 0, none⟩)] [bk kb 9 [str key]] (fun _ => True) (fun v A' => v = .bool (gtrB x.1 key) ∧ A' = [bk kb 9 [str key]]) := by
  refine Ct.intro Tryz.func177 rfl Tryz.ntmps177 (lb rfl) fun w0 hpre => ?_
  refine jD <| jF ?_
  refine jH rfl (jv (cs := [str x.1, str x.2]) rfl rfl) ?_
  rintro _ _ ⟨b_1, rfl, rfl⟩
  refine jA (jG (v := .bool false) rfl) <| jE <| jB <| jD <| jF <| jA (jZ fo80_0 rfl) <| jT (ji 0 (v := str x.1) rfl rfl kZ rfl) <| jT (ji 1 (v := str key) rfl rfl kZ rfl) <| jA (PO.gtrS rfl rfl) <| jA (jG (v := .bool (!Op.bytesLess x.1 key && !decide (x.1 = key))) rfl) ?_
  refine jE <| jB <| jM <| kL (pick_perm [1] (A := [bk kb 9 [str key]]) (F := [bk b_1 80 [str x.1, str x.2]]) rfl).symm <| jV (.inl rfl) rfl (jN (v := .bool (!Op.bytesLess x.1 key && !decide (x.1 = key))) rfl) (sL [bk kb 9 [str key]] [bk b_1 80 [str x.1, str x.2]]) ?_
  exact ⟨rfl, rfl⟩

theorem C_addSpan1 (kb : Nat) (key : Str) (x : Str) :
    Ct Tryz.prog 171 [str x, .pointer (some ⟨kb, 0, none⟩)] [bk kb 9 [str key]] (fun _ => True) (fun v A' => v = .bool (geqB x key) ∧ A' = [bk kb 9 [str key]]) := by
  refine Ct.intro Tryz.func171 rfl Tryz.ntmps171 (lb rfl) fun w0 hpre => ?_
  refine jD <| jF <| jA (jG (v := .bool false) rfl) <| jE <| jB <| jD <| jF <| jA (jC (v := str x) rfl) <| jT (ji 0 (v := str key) rfl rfl kZ rfl) <| jA (PO.geqS rfl rfl) ?_
  refine jA (jG (v := .bool (!(Op.bytesLess x key))) rfl) <| jE <| jB <| jM <| jV (.inl rfl) rfl (jN (v := .bool (!(Op.bytesLess x key))) rfl) (List.Sublist.refl _) ?_
  exact ⟨rfl, rfl⟩

theorem C_cellAt (a : Option Addr) (c : Nat) (s : List Cell) (key : Str) (hn : s.length ≤ 1000000000000) :
    Ct Tryz.prog 183 [.slice a s.length c, str key] [] (fun w_ => Sees w_ (.slice a s.length c) 2 s.length (s.flatMap encC)) (fun v A' => v = .int .i64 (idxI (fun q_ => decide (q_.1 = key)) s) ∧ A' = []) := by
  refine Ct.intro Tryz.func183 rfl Tryz.ntmps183 (lb rfl) fun w0 hpre => ?_
  have hs_a : Sees w0 _ _ _ _ := hpre
  refine jD <| jF ?_
  refine jH rfl (jv (cs := [str key]) rfl rfl) ?_
  rintro _ _ ⟨b_1, rfl, rfl⟩
  refine jA (jG (v := iv 0) rfl) <| jE <| jB <| jD <| jF <| jA (jC (v := .slice a s.length c) rfl) <| jA (PO.makeFunc (fv := []) (cv := [.pointer (some ⟨b_1, 0, none⟩)]) rfl rfl) ?_
  refine jH rfl (jI [0] Tryz.call176 rfl (C_idxC 196 Tryz.call196 b_1 key (fun q_ => decide (q_.1 = key)) (C_cellAt1 b_1 key) a c s (by omega)) rfl (fun w hw => ⟨hw.seeOut_ hs_a nM, hw.apartF 0 hs_a rfl List.not_mem_nil⟩)) ?_
  rintro _ _ ⟨_, ⟨rfl, rfl⟩, rfl⟩
  have hix1 := idxI_lo (fun q_ => decide (q_.1 = key)) s
  have hfl1 := findAt_le (fun q_ => decide (q_.1 = key)) s
  refine jA (jG (v := iv (idxI (fun q_ => decide (q_.1 = key)) s)) rfl) <| jE <| jB <| jM <| jV (.inl rfl) rfl (jN (v := iv (idxI (fun q_ => decide (q_.1 = key)) s)) rfl) (List.nil_sublist _) ?_
  exact ⟨rfl, rfl⟩

theorem C_getKey (a : Option Addr) (c : Nat) (s : List Cell) (key : Str) (hn : s.length ≤ 1000000000000) :
    Ct Tryz.prog 164 [.slice a s.length c, str key] [] (fun w_ => Sees w_ (.slice a s.length c) 2 s.length (s.flatMap encC)) (fun v A' => v = str (getKey s key) ∧ A' = []) := by
  refine Ct.intro Tryz.func164 rfl Tryz.ntmps164 (lb rfl) fun w0 hpre => ?_
  have hs_a : Sees w0 _ _ _ _ := hpre
  refine jD <| jF <| jA (jG (v := str []) rfl) <| jE <| jB <| jD <| jD <| jF <| jA (jC (v := .slice a s.length c) rfl) <| jA (jC (v := str key) rfl) ?_
  refine jH rfl (jI [] Tryz.call183 rfl (C_cellAt a c s key (by omega)) rfl (fun w hw => hw.seeOut_ hs_a nM)) ?_
  rintro _ _ ⟨_, ⟨rfl, rfl⟩, rfl⟩
  have hix0 := idxI_lo (fun q_ => decide (q_.1 = key)) s
  have hfl0 := findAt_le (fun q_ => decide (q_.1 = key)) s
  refine jA (jG (v := iv (idxI (fun q_ => decide (q_.1 = key)) s)) rfl) <| jE <| jB <| jD <| jF <| jA (jC (v := iv (idxI (fun q_ => decide (q_.1 = key)) s)) rfl) <| jA (kT rfl rfl) <| jE <| jB ?_
  by_cases h_1 : 0 ≤ (idxI (fun q_ => decide (q_.1 = key)) s)
  · have hx_2l : findAt (fun q_ => decide (q_.1 = key)) s < s.length := by omega
    have hx_2e : idxI (fun q_ => decide (q_.1 = key)) s = ((findAt (fun q_ => decide (q_.1 = key)) s : Nat) : Int) := by omega
    refine jR (cB (dT h_1)) <| jD <| jF <| jA (jC (v := .slice a s.length c) rfl) <| jA (jC (v := iv ((findAt (fun q_ => decide (q_.1 = key)) s : Nat) : Int)) (congrArg (Value.int .i64) hx_2e)) ?_
    obtain ⟨hr_3, hr_3b, -⟩ := sees_some hs_a (by omega)
    refine jA (kH (i := (findAt (fun q_ => decide (q_.1 = key)) s)) kc ke hr_3 hr_3b rfl rfl (by omega)) <| jA (PO.fieldAddrE fo80_1 hr_3 rfl) <| jT (LO.loadS1 (v := str ((s.getD (findAt (fun q_ => decide (q_.1 = key)) s) c0).2)) hs_a nM rfl kZ (atC2 (by omega))) <| jA (jG (v := str ((s.getD (findAt (fun q_ => decide (q_.1 = key)) s) c0).2)) rfl) <| jE <| jB <| jM <| jX <| jV (.inl rfl) rfl (jN (v := str ((s.getD (findAt (fun q_ => decide (q_.1 = key)) s) c0).2)) rfl) (List.nil_sublist _) ?_
    refine ⟨?_, rfl⟩
    rw [getKey_found hx_2l]
  have hx_4l : findAt (fun q_ => decide (q_.1 = key)) s = s.length := by omega
  refine jQ (cB (dF h_1)) <| jU <| jB <| jD <| jF <| jA (jG (v := str []) rfl) <| jE <| jB <| jM <| jV (.inl rfl) rfl (jN (v := str []) rfl) (List.nil_sublist _) ?_
  refine ⟨?_, rfl⟩
  rw [getKey_none hx_4l]

theorem C_addSpan (a : Option Addr) (c : Nat) (l : List Str) (x : Str) (hn : l.length ≤ 100000000000) :
    Ct Tryz.prog 156 [.slice a l.length c, str x] [Res.row (.slice a l.length c) 9 1 l.length (l.map str)] (fun _ => True) (fun v A' => ∃ a' c', v = .slice a' (addSpan l x).length c' ∧ A' = [.row (.slice a' (addSpan l x).length c') 9 1 (addSpan l x).length ((addSpan l x).map str)]) := by
  refine Ct.intro Tryz.func156 rfl Tryz.ntmps156 (lb rfl) fun w0 hpre => ?_
  refine jD <| jF ?_
  refine jH rfl (jv (cs := [str x]) rfl rfl) ?_
  rintro _ _ ⟨b_1, rfl, rfl⟩
  refine jA (jG (v := .slice none 0 0) rfl) <| jE <| jB <| jD <| jF <| jA (jC (v := .slice a l.length c) rfl) <| jA (PO.makeFunc (fv := []) (cv := [.pointer (some ⟨b_1, 0, none⟩)]) rfl rfl) ?_
  refine jH rfl (jI [0] Tryz.call170 rfl (C_idxS 171 Tryz.call171 b_1 x (fun q_ => geqB q_ x) (C_addSpan1 b_1 x) a c l (by omega)) rfl (fun w hw => ⟨hw.see (i := 1) rfl, hw.apartO 1 0 rfl rfl rfl⟩)) ?_
  rintro _ _ ⟨_, ⟨rfl, rfl⟩, rfl⟩
  have hix1 := idxI_lo (fun q_ => geqB q_ x) l
  have hfl1 := findAt_le (fun q_ => geqB q_ x) l
  refine jA (jG (v := iv (idxI (fun q_ => geqB q_ x) l)) rfl) <| jE <| jB <| jD <| jD <| jF <| jA (jC (v := iv (idxI (fun q_ => geqB q_ x) l)) rfl) <| jA (js rfl rfl) <| jE <| jB ?_
  by_cases h_2 : (idxI (fun q_ => geqB q_ x) l) < 0
  · have hx_3l : findAt (fun q_ => geqB q_ x) l = l.length := by omega
    refine jR (cB (dT h_2)) <| jD <| jF <| jA (jC (v := .slice a l.length c) rfl) <| jT (ji 0 (v := str x) rfl rfl kZ rfl) ?_
    refine jH rfl (kI (ps := [(0, str x)]) (cur := #[str x]) kW ka km rfl (by kernel_rfl) (by decide) (by decide)) ?_
    rintro _ _ ⟨a_4, rfl, rfl⟩
    refine jH rfl (kF 2 (q := 1) (news := ([x] : List Str).map str) (n' := (l ++ ([x] : List Str)).length) (cs' := (l ++ ([x] : List Str)).map str) rfl kW kW kj rfl (by' := 16) rfl rfl rfl rfl rfl (fun w hw => Src.sees (hw.see (i := 0) rfl) (oneS _)) (by (try simp only [LE]); omega) (by (try simp only [LE]); omega) (by simp only [List.length_append, List.length_take, List.length_drop, List.length_cons, List.length_nil] <;> first | rfl | omega) (by simp only [List.map_append])) ?_
    rintro _ _ ⟨a_5, c_6, rfl, rfl⟩
    refine jA (jG (v := .slice a_5 ((l ++ ([x] : List Str)).length) c_6) rfl) <| jE <| jB <| jM <| jX <| kL (pick_perm [2] (A := [Res.row (.slice a_5 ((l ++ ([x] : List Str)).length) c_6) 9 1 ((l ++ ([x] : List Str)).length) ((l ++ ([x] : List Str)).map str)]) (F := [Res.row (.slice a_4 1 1) 9 1 1 (([x] : List Str).map str), bk b_1 9 [str x]]) rfl).symm <| jV (.inl rfl) rfl (jN (v := .slice a_5 ((l ++ ([x] : List Str)).length) c_6) rfl) (sL [Res.row (.slice a_5 ((l ++ ([x] : List Str)).length) c_6) 9 1 ((l ++ ([x] : List Str)).length) ((l ++ ([x] : List Str)).map str)] [Res.row (.slice a_4 1 1) 9 1 1 (([x] : List Str).map str), bk b_1 9 [str x]]) ?_
    exact ⟨_, _, by rw [addSpan_end hx_3l], by rw [addSpan_end hx_3l] <;> rfl⟩
  have hx_7l : findAt (fun q_ => geqB q_ x) l < l.length := by omega
  have hx_7e : idxI (fun q_ => geqB q_ x) l = ((findAt (fun q_ => geqB q_ x) l : Nat) : Int) := by omega
  refine jQ (cB (dF h_2)) <| jU <| jB <| jD <| jD <| jq [bk b_1 9 [str x], Res.row (.slice a l.length c) 9 1 l.length (l.map str)] 5 mixed (by simp) <| jK 0 rfl (jC (v := .slice a l.length c) rfl) <| jK 1 rfl (jC (v := iv ((findAt (fun q_ => geqB q_ x) l : Nat) : Int)) (congrArg (Value.int .i64) hx_7e)) ?_
  refine JA.facts fun hst => ?_
  obtain ⟨hr_8, hr_8b, -⟩ := row_some 1 rfl (by omega) hst
  refine jK 2 rfl (kH (i := (findAt (fun q_ => geqB q_ x) l)) kW ka hr_8 hr_8b rfl rfl (by omega)) <| jl 3 rfl (LO.loadR1 1 (v := str (l.getD (findAt (fun q_ => geqB q_ x) l) [])) rfl rfl kZ (atS (by omega))) <| jl 4 rfl (ji 0 (v := str x) rfl rfl kZ rfl) <| jK 5 rfl (PO.eqlS rfl rfl) <| kG (by kernel_rfl) <| jB ?_
  by_cases h_9 : (l.getD (findAt (fun q_ => geqB q_ x) l) []) = x
  · have hsame := h_9
    refine jR (cB (dT h_9)) <| jD <| jF <| jA (jC (v := .slice a l.length c) rfl) <| jA (jG (v := .slice a l.length c) rfl) <| jE <| jB <| jM <| jX <| kL (pick_perm [1] (A := [Res.row (.slice a l.length c) 9 1 l.length (l.map str)]) (F := [bk b_1 9 [str x]]) rfl).symm ?_
    refine jV (.inl rfl) rfl (jN (v := .slice a l.length c) rfl) (sL [Res.row (.slice a l.length c) 9 1 l.length (l.map str)] [bk b_1 9 [str x]]) ?_
    exact ⟨_, _, by rw [addSpan_same hx_7l hsame], by rw [addSpan_same hx_7l hsame] <;> rfl⟩
  have hsame := h_9
  refine jQ (cB (dF h_9)) <| jU <| jB <| jD <| jF <| jA (jC (v := .slice a l.length c) rfl) <| jA (jC (v := iv ((findAt (fun q_ => geqB q_ x) l : Nat) : Int)) (congrArg (Value.int .i64) hx_7e)) <| jT (ji 0 (v := str x) rfl rfl kZ rfl) ?_
  refine jH rfl (kI (ps := [(0, str x)]) (cur := #[str x]) kW ka km rfl (by kernel_rfl) (by decide) (by decide)) ?_
  rintro _ _ ⟨a_10, rfl, rfl⟩
  refine jH rfl (jI [2, 0] Tryz.call172 rfl (C_insS a a_10 c l (findAt (fun q_ => geqB q_ x) l) x (by omega) (by omega) (by rw [List.length_map, Nat.mul_one])) rfl (fun _ _ => trivial)) ?_
  rintro _ _ ⟨_, ⟨a_11, c_12, rfl, rfl⟩, rfl⟩
  refine jA (jG (v := .slice a_11 ((insertAt (findAt (fun q_ => geqB q_ x) l) x l).length) c_12) rfl) <| jE <| jB <| jM <| jV (.inl rfl) rfl (jN (v := .slice a_11 ((insertAt (findAt (fun q_ => geqB q_ x) l) x l).length) c_12) rfl) (sL [Res.row (.slice a_11 ((insertAt (findAt (fun q_ => geqB q_ x) l) x l).length) c_12) 9 1 ((insertAt (findAt (fun q_ => geqB q_ x) l) x l).length) ((insertAt (findAt (fun q_ => geqB q_ x) l) x l).map str)] [bk b_1 9 [str x]]) ?_
  exact ⟨_, _, by rw [addSpan_ins hx_7l hsame], by rw [addSpan_ins hx_7l hsame] <;> rfl⟩

theorem C_put (a : Option Addr) (c : Nat) (s : List Cell) (key val : Str) (hn : s.length ≤ 100000000000) (hk : key.length ≤ 1000000000000) :
    Ct Tryz.prog 157 [.slice a s.length c, str key, str val] [Res.row (.slice a s.length c) 80 2 s.length (s.flatMap encC)] (fun _ => True) (fun v A' => ∃ a' c', v = .slice a' (putKey s key val).length c' ∧ A' = [.row (.slice a' (putKey s key val).length c') 80 2 (putKey s key val).length ((putKey s key val).flatMap encC)]) := by
  refine Ct.intro Tryz.func157 rfl Tryz.ntmps157 (lb rfl) fun w0 hpre => ?_
  refine jD <| jF ?_
  refine jH rfl (jv (cs := [str key]) rfl rfl) ?_
  rintro _ _ ⟨b_1, rfl, rfl⟩
  refine jA (jG (v := .slice none 0 0) rfl) <| jE <| jB <| jD <| jD <| jF <| jT (ji 0 (v := str key) rfl rfl kZ rfl) ?_
  refine jH rfl (jI [] Tryz.call173 rfl (C_keyOk key (by omega)) rfl (fun _ _ => trivial)) ?_
  rintro _ _ ⟨_, ⟨rfl, rfl⟩, rfl⟩
  refine jA (kA rfl) <| jA (jC (v := .bool (!(keyOk key))) rfl) ?_
  rcases Bool.eq_false_or_eq_true (keyOk key) with h_2 | h_2
  · refine jb rfl rfl rfl (cB (cN h_2)) (ja (jd (jC (v := str val) rfl))) ?_
    rintro _ _ ⟨rfl, rfl⟩
    refine jb rfl rfl rfl (cB (cN h_2)) (ja (jd (kJ kY rfl))) ?_
    rintro _ _ ⟨rfl, rfl⟩
    refine jb rfl rfl rfl (cB (cN h_2)) (ja (jd (kS rfl rfl))) ?_
    rintro _ _ ⟨rfl, rfl⟩
    refine jA (jw (v := .bool (decide (60 < (val.length : Int)))) (cB (cN h_2)) rfl) <| jE <| jB ?_
    by_cases h_3 : 60 < (val.length : Int)
    · refine jR (cB (dT h_3)) <| jD <| jF <| jA (jC (v := .slice a s.length c) rfl) <| jA (jG (v := .slice a s.length c) rfl) <| jE <| jB <| jM <| jX <| kL (pick_perm [1] (A := [Res.row (.slice a s.length c) 80 2 s.length (s.flatMap encC)]) (F := [bk b_1 9 [str key]]) rfl).symm ?_
      refine jV (.inl rfl) rfl (jN (v := .slice a s.length c) rfl) (sL [Res.row (.slice a s.length c) 80 2 s.length (s.flatMap encC)] [bk b_1 9 [str key]]) ?_
      have he := (putKey_bad2 (by omega) : putKey s key val = _)
      exact ⟨_, _, by rw [he], by rw [he] <;> rfl⟩
    refine jQ (cB (dF h_3)) <| jU <| jB <| jD <| jF <| jA (jC (v := .slice a s.length c) rfl) <| jA (PO.makeFunc (fv := []) (cv := [.pointer (some ⟨b_1, 0, none⟩)]) rfl rfl) ?_
    refine jH rfl (jI [0, 0] Tryz.call174 rfl (C_delC 175 Tryz.call175 b_1 key (fun q_ => decide (q_.1 = key)) (C_put1 b_1 key) a c s (by omega)) rfl (fun _ _ => trivial)) ?_
    rintro _ _ ⟨_, ⟨a_4, c_5, rfl, rfl⟩, rfl⟩
    have hfi5 : (s.filter (fun c => !decide (c.1 = key))).length ≤ s.length := List.length_filter_le _ _
    refine jA (jG (v := .slice a_4 ((s.filter (fun c => !decide (c.1 = key))).length) c_5) rfl) <| jE <| jB <| jD <| jD <| jF <| jA (jC (v := str val) rfl) <| jA (PO.eqlS rfl rfl) <| jE <| jB ?_
    by_cases h_6 : val = []
    · refine jR (cB (dT h_6)) <| jD <| jF <| jA (jC (v := .slice a_4 ((s.filter (fun c => !decide (c.1 = key))).length) c_5) rfl) <| jA (jG (v := .slice a_4 ((s.filter (fun c => !decide (c.1 = key))).length) c_5) rfl) <| jE <| jB <| jM <| jX <| kL (pick_perm [1] (A := [Res.row (.slice a_4 ((s.filter (fun c => !decide (c.1 = key))).length) c_5) 80 2 ((s.filter (fun c => !decide (c.1 = key))).length) ((s.filter (fun c => !decide (c.1 = key))).flatMap encC)]) (F := [bk b_1 9 [str key]]) rfl).symm ?_
      refine jV (.inl rfl) rfl (jN (v := .slice a_4 ((s.filter (fun c => !decide (c.1 = key))).length) c_5) rfl) (sL [Res.row (.slice a_4 ((s.filter (fun c => !decide (c.1 = key))).length) c_5) 80 2 ((s.filter (fun c => !decide (c.1 = key))).length) ((s.filter (fun c => !decide (c.1 = key))).flatMap encC)] [bk b_1 9 [str key]]) ?_
      have he := (putKey_nil h_2 (by omega) h_6 : putKey s key val = _)
      exact ⟨_, _, by rw [he], by rw [he] <;> rfl⟩
    refine jQ (cB (dF h_6)) <| jU <| jB <| jD <| jF <| jA (jC (v := .slice a_4 ((s.filter (fun c => !decide (c.1 = key))).length) c_5) rfl) <| jA (PO.makeFunc (fv := []) (cv := [.pointer (some ⟨b_1, 0, none⟩)]) rfl rfl) ?_
    refine jH rfl (jI [0] Tryz.call176 rfl (C_idxC 177 Tryz.call177 b_1 key (fun q_ => gtrB q_.1 key) (C_put2 b_1 key) a_4 c_5 (s.filter (fun c => !decide (c.1 = key))) (by omega)) rfl (fun w hw => ⟨hw.see (i := 1) rfl, hw.apartO 1 0 rfl rfl rfl⟩)) ?_
    rintro _ _ ⟨_, ⟨rfl, rfl⟩, rfl⟩
    have hix6 := idxI_lo (fun q_ => gtrB q_.1 key) (s.filter (fun c => !decide (c.1 = key)))
    have hfl6 := findAt_le (fun q_ => gtrB q_.1 key) (s.filter (fun c => !decide (c.1 = key)))
    refine jA (jG (v := iv (idxI (fun q_ => gtrB q_.1 key) (s.filter (fun c => !decide (c.1 = key))))) rfl) <| jE <| jB <| jD <| jD <| jF <| jA (jC (v := iv (idxI (fun q_ => gtrB q_.1 key) (s.filter (fun c => !decide (c.1 = key))))) rfl) <| jA (js rfl rfl) <| jE <| jB ?_
    by_cases h_7 : (idxI (fun q_ => gtrB q_.1 key) (s.filter (fun c => !decide (c.1 = key)))) < 0
    · have hx_8l : findAt (fun q_ => gtrB q_.1 key) (s.filter (fun c => !decide (c.1 = key))) = (s.filter (fun c => !decide (c.1 = key))).length := by omega
      refine jR (cB (dT h_7)) <| jF <| jA (jC (v := .slice a_4 ((s.filter (fun c => !decide (c.1 = key))).length) c_5) rfl) <| jA (kK kc rfl) <| jA (jG (v := iv (((s.filter (fun c => !decide (c.1 = key))).length : Nat) : Int)) rfl) <| jE <| jB <| jD <| jF <| jA (jC (v := .slice a_4 ((s.filter (fun c => !decide (c.1 = key))).length) c_5) rfl) ?_
      refine jA (jC (v := iv (((s.filter (fun c => !decide (c.1 = key))).length : Nat) : Int)) rfl) <| jT (ji 0 (v := str key) rfl rfl kZ rfl) <| jA (jC (v := str val) rfl) <| jA (kP (ps := [(0, str key), (1, str val)]) (cs := [str key, str val]) rfl (by kernel_rfl)) ?_
      refine jH rfl (kI (ps := [(0, .agg #[str key, str val])]) (cur := #[str key, str val]) kc ke kt rfl (by kernel_rfl) (by decide) (by decide)) ?_
      rintro _ _ ⟨a_9, rfl, rfl⟩
      refine jH rfl (jI [2, 0] Tryz.call178 rfl (C_insC a_4 a_9 c_5 (s.filter (fun c => !decide (c.1 = key))) ((s.filter (fun c => !decide (c.1 = key))).length) (key, val) (by omega) (by omega) (by rw [lenC])) rfl (fun _ _ => trivial)) ?_
      rintro _ _ ⟨_, ⟨a_10, c_11, rfl, rfl⟩, rfl⟩
      refine jA (jG (v := .slice a_10 ((insertAt ((s.filter (fun c => !decide (c.1 = key))).length) (key, val) (s.filter (fun c => !decide (c.1 = key)))).length) c_11) rfl) <| jE <| jB <| jM <| jV (.inl rfl) rfl (jN (v := .slice a_10 ((insertAt ((s.filter (fun c => !decide (c.1 = key))).length) (key, val) (s.filter (fun c => !decide (c.1 = key)))).length) c_11) rfl) (sL [Res.row (.slice a_10 ((insertAt ((s.filter (fun c => !decide (c.1 = key))).length) (key, val) (s.filter (fun c => !decide (c.1 = key)))).length) c_11) 80 2 ((insertAt ((s.filter (fun c => !decide (c.1 = key))).length) (key, val) (s.filter (fun c => !decide (c.1 = key)))).length) ((insertAt ((s.filter (fun c => !decide (c.1 = key))).length) (key, val) (s.filter (fun c => !decide (c.1 = key)))).flatMap encC)] [bk b_1 9 [str key]]) ?_
      have he := (putKey_ins h_2 (by omega) h_6 : putKey s key val = _)
      exact ⟨_, _, by rw [he, hx_8l], by rw [he, hx_8l] <;> rfl⟩
    have hx_12l : findAt (fun q_ => gtrB q_.1 key) (s.filter (fun c => !decide (c.1 = key))) < (s.filter (fun c => !decide (c.1 = key))).length := by omega
    have hx_12e : idxI (fun q_ => gtrB q_.1 key) (s.filter (fun c => !decide (c.1 = key))) = ((findAt (fun q_ => gtrB q_.1 key) (s.filter (fun c => !decide (c.1 = key))) : Nat) : Int) := by omega
    refine jQ (cB (dF h_7)) <| jU <| jB <| jD <| jF <| jA (jC (v := .slice a_4 ((s.filter (fun c => !decide (c.1 = key))).length) c_5) rfl) <| jA (jC (v := iv ((findAt (fun q_ => gtrB q_.1 key) (s.filter (fun c => !decide (c.1 = key))) : Nat) : Int)) (congrArg (Value.int .i64) hx_12e)) <| jT (ji 0 (v := str key) rfl rfl kZ rfl) <| jA (jC (v := str val) rfl) <| jA (kP (ps := [(0, str key), (1, str val)]) (cs := [str key, str val]) rfl (by kernel_rfl)) ?_
    refine jH rfl (kI (ps := [(0, .agg #[str key, str val])]) (cur := #[str key, str val]) kc ke kt rfl (by kernel_rfl) (by decide) (by decide)) ?_
    rintro _ _ ⟨a_13, rfl, rfl⟩
    refine jH rfl (jI [2, 0] Tryz.call178 rfl (C_insC a_4 a_13 c_5 (s.filter (fun c => !decide (c.1 = key))) (findAt (fun q_ => gtrB q_.1 key) (s.filter (fun c => !decide (c.1 = key)))) (key, val) (by omega) (by omega) (by rw [lenC])) rfl (fun _ _ => trivial)) ?_
    rintro _ _ ⟨_, ⟨a_14, c_15, rfl, rfl⟩, rfl⟩
    refine jA (jG (v := .slice a_14 ((insertAt (findAt (fun q_ => gtrB q_.1 key) (s.filter (fun c => !decide (c.1 = key)))) (key, val) (s.filter (fun c => !decide (c.1 = key)))).length) c_15) rfl) <| jE <| jB <| jM <| jV (.inl rfl) rfl (jN (v := .slice a_14 ((insertAt (findAt (fun q_ => gtrB q_.1 key) (s.filter (fun c => !decide (c.1 = key)))) (key, val) (s.filter (fun c => !decide (c.1 = key)))).length) c_15) rfl) (sL [Res.row (.slice a_14 ((insertAt (findAt (fun q_ => gtrB q_.1 key) (s.filter (fun c => !decide (c.1 = key)))) (key, val) (s.filter (fun c => !decide (c.1 = key)))).length) c_15) 80 2 ((insertAt (findAt (fun q_ => gtrB q_.1 key) (s.filter (fun c => !decide (c.1 = key)))) (key, val) (s.filter (fun c => !decide (c.1 = key)))).length) ((insertAt (findAt (fun q_ => gtrB q_.1 key) (s.filter (fun c => !decide (c.1 = key)))) (key, val) (s.filter (fun c => !decide (c.1 = key)))).flatMap encC)] [bk b_1 9 [str key]]) ?_
    have he := (putKey_ins h_2 (by omega) h_6 : putKey s key val = _)
    exact ⟨_, _, by rw [he], by rw [he] <;> rfl⟩
  refine jY (b := true) rfl rfl rfl (cB (cN h_2)) <| jY (b := true) rfl rfl rfl (cB (cN h_2)) <| jY (b := true) rfl rfl rfl (cB (cN h_2)) <| jA (jx (v := .bool true) (cB (cN h_2)) rfl) <| jE <| jB <| jR (cB rfl) <| jD <| jF <| jA (jC (v := .slice a s.length c) rfl) ?_
  refine jA (jG (v := .slice a s.length c) rfl) <| jE <| jB <| jM <| jX <| kL (pick_perm [1] (A := [Res.row (.slice a s.length c) 80 2 s.length (s.flatMap encC)]) (F := [bk b_1 9 [str key]]) rfl).symm <| jV (.inl rfl) rfl (jN (v := .slice a s.length c) rfl) (sL [Res.row (.slice a s.length c) 80 2 s.length (s.flatMap encC)] [bk b_1 9 [str key]]) ?_
  have he := (putKey_bad1 h_2 : putKey s key val = _)
  exact ⟨_, _, by rw [he], by rw [he] <;> rfl⟩

end Go.Proofs.YthdgcbdfcclgbaaGreatDoor

set_option linter.unusedSimpArgs false
set_option linter.unusedVariables false
set_option linter.unnecessarySimpa false
namespace Go.Proofs.YthdgcbdfcclgbaaGreatDoor
open Go Go.RowKit
attribute [local irreducible] JL JC JQ JO LO PO JA JX Ct

theorem C_cloneTouch (a1 a2 : Option Addr) (c1 c2 : Nat) (r w : List Str) (hr : r.length ≤ 100000000000) (hw_ : w.length ≤ 100000000000) :
    Ct Tryz.prog 53 [.agg #[.slice a1 r.length c1, .slice a2 w.length c2]] [] (fun w_ => Sees w_ (.slice a1 r.length c1) 1 r.length (r.map str) ∧ Sees w_ (.slice a2 w.length c2) 1 w.length (w.map str)) (fun v A' => ∃ b1 d1 b2 d2, v = .agg #[.slice b1 r.length d1, .slice b2 w.length d2] ∧ A' = [.row (.slice b1 r.length d1) 9 1 r.length (r.map str), .row (.slice b2 w.length d2) 9 1 w.length (w.map str)]) := by
  refine Ct.intro Tryz.func53 rfl Tryz.ntmps53 (lb rfl) fun w0 hpre => ?_
  have hs_a1 : Sees w0 _ _ _ _ := hpre.1
  have hs_a2 : Sees w0 _ _ _ _ := hpre.2
  refine jD <| jF ?_
  refine jH rfl (jv (cs := [.slice a1 r.length c1, .slice a2 w.length c2]) rfl rfl) ?_
  rintro _ _ ⟨b_1, rfl, rfl⟩
  refine jH rfl (jh (z := .agg #[.slice none 0 0, .slice none 0 0]) (cs := [.slice none 0 0, .slice none 0 0]) ks rfl) ?_
  rintro _ _ ⟨b_2, rfl, rfl⟩
  refine jE <| jB <| jD <| jq [bk b_2 33 [.slice none 0 0, .slice none 0 0], bk b_1 33 [.slice a1 r.length c1, .slice a2 w.length c2]] 7 mixed (by simp) <| jK 0 rfl (jZ fo33_0 rfl) <| jl 1 rfl (ji 1 (v := .slice a1 r.length c1) rfl rfl ko rfl) <| jK 3 rfl (jZ fo33_1 rfl) <| jl 4 rfl (ji 1 (v := .slice a2 w.length c2) rfl rfl ko rfl) <| jL (i := 2) ?_
  refine jO rfl rfl (jI [] Tryz.call117 rfl (C_cloneS a1 c1 r (by omega)) rfl (fun w hw => hw.seeOut_ hs_a1 nM)) ?_
  rintro _ _ ⟨_, ⟨a_9, c_10, rfl, rfl⟩, rfl⟩
  refine ⟨by simp, ?_⟩
  refine jL (i := 5) ?_
  refine jO rfl rfl (jI [] Tryz.call117 rfl (C_cloneS a2 c2 w (by omega)) rfl (fun w hw => hw.seeOut_ hs_a2 nM)) ?_
  rintro _ _ ⟨_, ⟨a_13, c_14, rfl, rfl⟩, rfl⟩
  refine ⟨by simp, ?_⟩
  refine jK 6 rfl (kP (ps := [(0, .slice a_9 r.length c_10), (1, .slice a_13 w.length c_14)]) (cs := [.slice a_9 r.length c_10, .slice a_13 w.length c_14]) rfl (by kernel_rfl)) <| jL (i := 7) ?_
  refine jp rfl (jc 2 (vs := [.slice a_9 r.length c_10, .slice a_13 w.length c_14]) (cs' := [.slice a_9 r.length c_10, .slice a_13 w.length c_14]) rfl rfl rfl rfl kl rfl rfl (lb rfl) rfl) ?_
  rintro _ _ rfl
  refine jB <| jM <| kL (pick_perm [1, 0] (A := [Res.row (.slice a_9 r.length c_10) 9 1 r.length (r.map str), Res.row (.slice a_13 w.length c_14) 9 1 w.length (w.map str)]) (F := [bk b_2 33 [.slice a_9 r.length c_10, .slice a_13 w.length c_14], bk b_1 33 [.slice a1 r.length c1, .slice a2 w.length c2]]) rfl).symm <| jV (.inl rfl) rfl (je (jf 2 (vs := [.slice a_9 r.length c_10, .slice a_13 w.length c_14]) rfl rfl Tryz.isAgg33 kl rfl rfl) ⟨_, rfl⟩) (tS 2 _) ?_
  exact ⟨_, _, _, _, rfl, rfl⟩

theorem C_cloneMach (a0 a1 a2 : Option Addr) (c0_ c1 c2 : Nat) (m : MS) (h0 : m.s.length ≤ 10000000000) (h1 : m.r.length ≤ 10000000000) (h2 : m.w.length ≤ 10000000000) :
    Ct Tryz.prog 20 [.agg #[.slice a0 m.s.length c0_, .slice a1 m.r.length c1, .slice a2 m.w.length c2]] [] (fun w_ => Sees w_ (.slice a0 m.s.length c0_) 2 m.s.length (m.s.flatMap encC) ∧ Sees w_ (.slice a1 m.r.length c1) 1 m.r.length (m.r.map str) ∧ Sees w_ (.slice a2 m.w.length c2) 1 m.w.length (m.w.map str)) (fun v A' => ∃ x0 y0 x1 y1 x2 y2, v = .agg #[.slice x0 m.s.length y0, .slice x1 m.r.length y1, .slice x2 m.w.length y2] ∧ A' = [.row (.slice x0 m.s.length y0) 80 2 m.s.length (m.s.flatMap encC), .row (.slice x1 m.r.length y1) 9 1 m.r.length (m.r.map str), .row (.slice x2 m.w.length y2) 9 1 m.w.length (m.w.map str)]) := by
  refine Ct.intro Tryz.func20 rfl Tryz.ntmps20 (lb rfl) fun w0 hpre => ?_
  have hs_a0 : Sees w0 _ _ _ _ := hpre.1
  have hs_a1 : Sees w0 _ _ _ _ := hpre.2.1
  have hs_a2 : Sees w0 _ _ _ _ := hpre.2.2
  refine jD <| jF ?_
  refine jH rfl (jv (cs := [.slice a0 m.s.length c0_, .slice a1 m.r.length c1, .slice a2 m.w.length c2]) rfl rfl) ?_
  rintro _ _ ⟨b_1, rfl, rfl⟩
  refine jH rfl (jh (z := zM) (cs := zC) kd rfl) ?_
  rintro _ _ ⟨b_2, rfl, rfl⟩
  refine jE <| jB <| jD <| jq [bk b_2 35 zC, bk b_1 35 [.slice a0 m.s.length c0_, .slice a1 m.r.length c1, .slice a2 m.w.length c2]] 7 mixed (by simp) <| jK 0 rfl (jZ fo35_0 rfl) <| jl 1 rfl (ji 1 (v := .slice a0 m.s.length c0_) rfl rfl gA rfl) <| jK 3 rfl (jZ fo35_1 rfl) <| jl 4 rfl (jf 1 (vs := [.slice a1 m.r.length c1, .slice a2 m.w.length c2]) rfl rfl Tryz.isAgg33 kl rfl rfl) <| jL (i := 2) ?_
  refine jO rfl rfl (jI [] Tryz.call52 rfl (C_cloneC a0 c0_ m.s (by omega)) rfl (fun w hw => hw.seeOut_ hs_a0 nM)) ?_
  rintro _ _ ⟨_, ⟨a_9, c_10, rfl, rfl⟩, rfl⟩
  refine ⟨by simp, ?_⟩
  refine jL (i := 5) ?_
  refine jO rfl rfl (jI [] Tryz.call53 rfl (C_cloneTouch a1 a2 c1 c2 m.r m.w (by omega) (by omega)) rfl (fun w hw => ⟨hw.seeOut_ hs_a1 nM, hw.seeOut_ hs_a2 nM⟩)) ?_
  rintro _ _ ⟨_, ⟨a_15, c_16, a_17, c_18, rfl, rfl⟩, rfl⟩
  refine ⟨by simp, ?_⟩
  refine jK 6 rfl (kP (ps := [(0, .slice a_9 m.s.length c_10), (1, .agg #[.slice a_15 m.r.length c_16, .slice a_17 m.w.length c_18])]) (cs := [.slice a_9 m.s.length c_10, .slice a_15 m.r.length c_16, .slice a_17 m.w.length c_18]) rfl (by kernel_rfl)) <| jL (i := 7) ?_
  refine jp rfl (jc 3 (vs := [.slice a_9 m.s.length c_10, .slice a_15 m.r.length c_16, .slice a_17 m.w.length c_18]) (cs' := [.slice a_9 m.s.length c_10, .slice a_15 m.r.length c_16, .slice a_17 m.w.length c_18]) rfl rfl rfl rfl kp rfl rfl (lb rfl) rfl) ?_
  rintro _ _ rfl
  refine jB <| jM <| kL (pick_perm [2, 0, 0] (A := [Res.row (.slice a_9 m.s.length c_10) 80 2 m.s.length (m.s.flatMap encC), Res.row (.slice a_15 m.r.length c_16) 9 1 m.r.length (m.r.map str), Res.row (.slice a_17 m.w.length c_18) 9 1 m.w.length (m.w.map str)]) (F := [bk b_2 35 [.slice a_9 m.s.length c_10, .slice a_15 m.r.length c_16, .slice a_17 m.w.length c_18], bk b_1 35 [.slice a0 m.s.length c0_, .slice a1 m.r.length c1, .slice a2 m.w.length c2]]) rfl).symm <| jV (.inl rfl) rfl (je (jf 3 (vs := [.slice a_9 m.s.length c_10, .slice a_15 m.r.length c_16, .slice a_17 m.w.length c_18]) rfl rfl ku kp rfl rfl) ⟨_, rfl⟩) (tS 3 _) ?_
  exact ⟨_, _, _, _, _, _, rfl, rfl⟩

theorem C_look (p : Nat) (a0 a1 a2 : Option Addr) (c0_ c1 c2 : Nat) (m : MS) (key : Str) (h0 : m.s.length ≤ 10000000000) (h1 : m.r.length ≤ 10000000000) (h2 : m.w.length ≤ 10000000000) :
    Ct Tryz.prog 139 [.pointer (some ⟨p, 0, none⟩), str key] [bk p 35 [.slice a0 m.s.length c0_, .slice a1 m.r.length c1, .slice a2 m.w.length c2], Res.row (.slice a0 m.s.length c0_) 80 2 m.s.length (m.s.flatMap encC), Res.row (.slice a1 m.r.length c1) 9 1 m.r.length (m.r.map str), Res.row (.slice a2 m.w.length c2) 9 1 m.w.length (m.w.map str)] (fun _ => True) (fun v A' => ∃ x0 y0 x1 y1 x2 y2, v = str (m.look key).2 ∧ A' = [bk p 35 [.slice x0 (((m.look key).1).s.length) y0, .slice x1 (((m.look key).1).r.length) y1, .slice x2 (((m.look key).1).w.length) y2], Res.row (.slice x0 (((m.look key).1).s.length) y0) 80 2 ((((m.look key).1).s).length) ((((m.look key).1).s).flatMap encC), Res.row (.slice x1 (((m.look key).1).r.length) y1) 9 1 ((((m.look key).1).r).length) ((((m.look key).1).r).map str), Res.row (.slice x2 (((m.look key).1).w.length) y2) 9 1 ((((m.look key).1).w).length) ((((m.look key).1).w).map str)]) := by
  refine Ct.intro Tryz.func139 rfl Tryz.ntmps139 (lb rfl) fun w0 hpre => ?_
  refine jD <| jF <| jA (jG (v := str []) rfl) <| jE <| jB <| jD <| jF <| jA (jC (v := pv p) rfl) <| jA (jC (v := pv p) rfl) <| jA (PO.nilCheck rfl) ?_
  refine jA (jZ fo35_1 rfl) <| jA (jZ fo33_0 rfl) <| jT (ji 0 (v := .slice a1 m.r.length c1) rfl rfl ko rfl) <| jA (jC (v := str key) rfl) ?_
  refine jH rfl (jI [2] Tryz.call156 rfl (C_addSpan a1 c1 m.r key (by omega)) rfl (fun _ _ => trivial)) ?_
  rintro _ _ ⟨_, ⟨a_1, c_2, rfl, rfl⟩, rfl⟩
  refine jA (PO.nilCheck rfl) <| jA (jZ fo35_1 rfl) <| jA (jZ fo33_0 rfl) ?_
  refine jH rfl (jc 1 (vs := [.slice a_1 ((addSpan m.r key).length) c_2]) (cs' := [.slice a0 m.s.length c0_, .slice a_1 ((addSpan m.r key).length) c_2, .slice a2 m.w.length c2]) rfl rfl rfl rfl Tryz.sizeOf23 rfl rfl (lb rfl) rfl) ?_
  rintro _ _ rfl
  refine jE <| jB <| jD <| jF <| jA (jC (v := pv p) rfl) <| jA (PO.nilCheck rfl) <| jA (jZ fo35_0 rfl) <| jT (ji 1 (v := .slice a0 m.s.length c0_) rfl rfl gA rfl) <| jA (jC (v := str key) rfl) ?_
  refine jH rfl (jI [] Tryz.call164 rfl (C_getKey a0 c0_ m.s key (by omega)) rfl (fun w hw => hw.see (i := 2) rfl)) ?_
  rintro _ _ ⟨_, ⟨rfl, rfl⟩, rfl⟩
  refine jA (jG (v := str (getKey m.s key)) rfl) <| jE <| jB <| jM <| kL (pick_perm [1, 1, 0, 0] (A := [bk p 35 [.slice a0 m.s.length c0_, .slice a_1 ((addSpan m.r key).length) c_2, .slice a2 m.w.length c2], Res.row (.slice a0 m.s.length c0_) 80 2 m.s.length (m.s.flatMap encC), Res.row (.slice a_1 ((addSpan m.r key).length) c_2) 9 1 ((addSpan m.r key).length) ((addSpan m.r key).map str), Res.row (.slice a2 m.w.length c2) 9 1 m.w.length (m.w.map str)]) (F := []) rfl).symm <| jV (.inl rfl) rfl (jN (v := str (getKey m.s key)) rfl) (tS 4 _) ?_
  exact ⟨_, _, _, _, _, _, rfl, rfl⟩

theorem C_lay (p : Nat) (a0 a1 a2 : Option Addr) (c0_ c1 c2 : Nat) (m : MS) (key val : Str) (h0 : m.s.length ≤ 10000000000) (h1 : m.r.length ≤ 10000000000) (h2 : m.w.length ≤ 10000000000) (hk : key.length ≤ 1000000000000) :
    Ct Tryz.prog 127 [.pointer (some ⟨p, 0, none⟩), str key, str val] [bk p 35 [.slice a0 m.s.length c0_, .slice a1 m.r.length c1, .slice a2 m.w.length c2], Res.row (.slice a0 m.s.length c0_) 80 2 m.s.length (m.s.flatMap encC), Res.row (.slice a1 m.r.length c1) 9 1 m.r.length (m.r.map str), Res.row (.slice a2 m.w.length c2) 9 1 m.w.length (m.w.map str)] (fun _ => True) (fun v A' => ∃ x0 y0 x1 y1 x2 y2, v = .tuple #[] ∧ A' = [bk p 35 [.slice x0 ((m.lay key val).s.length) y0, .slice x1 ((m.lay key val).r.length) y1, .slice x2 ((m.lay key val).w.length) y2], Res.row (.slice x0 ((m.lay key val).s.length) y0) 80 2 (((m.lay key val).s).length) (((m.lay key val).s).flatMap encC), Res.row (.slice x1 ((m.lay key val).r.length) y1) 9 1 (((m.lay key val).r).length) (((m.lay key val).r).map str), Res.row (.slice x2 ((m.lay key val).w.length) y2) 9 1 (((m.lay key val).w).length) (((m.lay key val).w).map str)]) := by
  refine Ct.intro Tryz.func127 rfl Tryz.ntmps127 (lb rfl) fun w0 hpre => ?_
  refine jD <| jF <| jA (jC (v := pv p) rfl) <| jA (jC (v := pv p) rfl) <| jA (PO.nilCheck rfl) <| jA (jZ fo35_1 rfl) <| jA (jZ fo33_1 rfl) <| jT (ji 0 (v := .slice a2 m.w.length c2) rfl rfl ko rfl) <| jA (jC (v := str key) rfl) ?_
  refine jH rfl (jI [3] Tryz.call156 rfl (C_addSpan a2 c2 m.w key (by omega)) rfl (fun _ _ => trivial)) ?_
  rintro _ _ ⟨_, ⟨a_1, c_2, rfl, rfl⟩, rfl⟩
  refine jA (PO.nilCheck rfl) <| jA (jZ fo35_1 rfl) <| jA (jZ fo33_1 rfl) ?_
  refine jH rfl (jc 1 (vs := [.slice a_1 ((addSpan m.w key).length) c_2]) (cs' := [.slice a0 m.s.length c0_, .slice a1 m.r.length c1, .slice a_1 ((addSpan m.w key).length) c_2]) rfl rfl rfl rfl Tryz.sizeOf23 rfl rfl (lb rfl) rfl) ?_
  rintro _ _ rfl
  refine jE <| jB <| jF <| jA (jC (v := pv p) rfl) <| jA (jC (v := pv p) rfl) <| jA (PO.nilCheck rfl) <| jA (jZ fo35_0 rfl) <| jT (ji 1 (v := .slice a0 m.s.length c0_) rfl rfl gA rfl) <| jA (jC (v := str key) rfl) <| jA (jC (v := str val) rfl) ?_
  refine jH rfl (jI [2] Tryz.call157 rfl (C_put a0 c0_ m.s key val (by omega) (by omega)) rfl (fun _ _ => trivial)) ?_
  rintro _ _ ⟨_, ⟨a_3, c_4, rfl, rfl⟩, rfl⟩
  refine jA (PO.nilCheck rfl) <| jA (jZ fo35_0 rfl) ?_
  refine jH rfl (jc 2 (vs := [.slice a_3 ((putKey m.s key val).length) c_4]) (cs' := [.slice a_3 ((putKey m.s key val).length) c_4, .slice a1 m.r.length c1, .slice a_1 ((addSpan m.w key).length) c_2]) rfl rfl rfl rfl Tryz.sizeOf32 rfl rfl (lb rfl) rfl) ?_
  rintro _ _ rfl
  refine jE <| kL (pick_perm [2, 0, 1, 0] (A := [bk p 35 [.slice a_3 ((putKey m.s key val).length) c_4, .slice a1 m.r.length c1, .slice a_1 ((addSpan m.w key).length) c_2], Res.row (.slice a_3 ((putKey m.s key val).length) c_4) 80 2 ((putKey m.s key val).length) ((putKey m.s key val).flatMap encC), Res.row (.slice a1 m.r.length c1) 9 1 m.r.length (m.r.map str), Res.row (.slice a_1 ((addSpan m.w key).length) c_2) 9 1 ((addSpan m.w key).length) ((addSpan m.w key).map str)]) (F := []) rfl).symm <| Done.none (.inr rfl) rfl (tS 4 _) ?_
  exact ⟨_, _, _, _, _, _, rfl, rfl⟩

theorem C_decimal (n : Int) (h0 : -9223372036854775808 ≤ n) (h1 : n ≤ 9223372036854775807) :
    Ct Tryz.prog 71 [.int .i64 n] [] (fun _ => True) (fun v A' => v = str (dec n) ∧ A' = []) := by
  refine Ct.intro Tryz.func71 rfl Tryz.ntmps71 (lb rfl) fun w0 hpre => ?_
  refine jD <| jF <| jA (jG (v := str []) rfl) <| jE <| jB <| jD <| jF <| jA (jC (v := iv n) rfl) ?_
  refine jH rfl (jI [] Tryz.call142 rfl (C_itoa n (by omega) (by omega)) rfl (fun _ _ => trivial)) ?_
  rintro _ _ ⟨_, ⟨rfl, rfl⟩, rfl⟩
  refine jA (jG (v := str (dec n)) rfl) <| jE <| jB <| jM <| jV (.inl rfl) rfl (jN (v := str (dec n)) rfl) (List.nil_sublist _) ?_
  exact ⟨rfl, rfl⟩

theorem C_readDecimal (t : Str) (ht : t.length ≤ 281474976710656) :
    Ct Tryz.prog 166 [str t] [] (fun _ => True) (fun v A' => v = .tuple #[.int .i64 (readDec t).1, .bool (readDec t).2] ∧ A' = []) := by
  refine Ct.intro Tryz.func166 rfl Tryz.ntmps166 (lb rfl) fun w0 hpre => ?_
  refine jD <| jF <| jA (jG (v := iv 0) rfl) <| jA (jG (v := .bool false) rfl) <| jE <| jB <| jD <| jF <| jA (jC (v := str t) rfl) ?_
  refine jH rfl (jI [] Tryz.call185 rfl (C_atoi t (by omega)) rfl (fun _ _ => trivial)) ?_
  rintro _ _ ⟨_, ⟨⟨n_, hat, rfl⟩ | ⟨hat, n_, te, pe, rfl⟩, rfl⟩, rfl⟩
  · refine jA (jC (v := .tuple #[iv n_, .nilIface]) rfl) <| jA (jS (v := iv n_) rfl rfl) <| jA (jS (v := .nilIface) rfl rfl) <| jA (jG (v := iv n_) rfl) <| jA (jG (v := .nilIface) rfl) <| jE <| jB <| jD <| jD <| jF ?_
    refine jA (jC (v := .nilIface) rfl) <| jA (PO.neqIfN Tryz.underlying162 rfl rfl) <| jA (jC (v := .bool false) rfl) <| jb rfl rfl rfl (cB rfl) (ja (jd (jC (v := iv n_) rfl))) ?_
    rintro _ _ ⟨rfl, rfl⟩
    refine jb rfl rfl rfl (cB rfl) (jI [] Tryz.call120 rfl (C_within n_ 0 1000000000) rfl (fun _ _ => trivial)) ?_
    rintro _ _ ⟨_, ⟨rfl, rfl⟩, rfl⟩
    refine jb rfl rfl rfl (cB rfl) (ja (jd (kA rfl))) ?_
    rintro _ _ ⟨rfl, rfl⟩
    refine jA (jw (v := .bool (!(decide (0 ≤ n_) && decide (n_ ≤ 1000000000)))) (cB rfl) rfl) <| jA (jC (v := .bool (!(decide (0 ≤ n_) && decide (n_ ≤ 1000000000)))) rfl) ?_
    rcases Bool.eq_false_or_eq_true (decide (0 ≤ n_) && decide (n_ ≤ 1000000000)) with h_1 | h_1
    · have h_1d := h_1
      simp only [Bool.and_eq_true, Bool.and_eq_false_iff, decide_eq_true_eq, decide_eq_false_iff_not] at h_1d
      refine jb rfl rfl rfl (cB (cN h_1)) (ja (jd (jC (v := iv n_) rfl))) ?_
      rintro _ _ ⟨rfl, rfl⟩
      refine jb rfl rfl rfl (cB (cN h_1)) (jI [] Tryz.call71 rfl (C_decimal n_ (by omega) (by omega)) rfl (fun _ _ => trivial)) ?_
      rintro _ _ ⟨_, ⟨rfl, rfl⟩, rfl⟩
      refine jb rfl rfl rfl (cB (cN h_1)) (ja (jd (jC (v := str t) rfl))) ?_
      rintro _ _ ⟨rfl, rfl⟩
      refine jb rfl rfl rfl (cB (cN h_1)) (ja (jd (PO.neqS rfl rfl))) ?_
      rintro _ _ ⟨rfl, rfl⟩
      refine jA (jw (v := .bool (!(decide ((dec n_) = t)))) (cB (cN h_1)) rfl) <| jE <| jB ?_
      by_cases h_2 : (dec n_) = t
      · refine jQ (cB (cN (dT h_2))) <| jU <| jB <| jD <| jF <| jA (jC (v := iv n_) rfl) <| jA (jG (v := iv n_) rfl) <| jA (jG (v := .bool true) rfl) <| jE <| jB ?_
        refine jM <| jj (.inl rfl) rfl (jN (v := iv n_) rfl) (jN (v := .bool true) rfl) (List.nil_sublist _) ?_
        refine ⟨?_, rfl⟩
        rw [readDec_ok hat, if_pos (by refine ⟨?_, ?_, ?_⟩ <;> first | omega | simp_all)]
      refine jR (cB (cN (dF h_2))) <| jD <| jF <| jA (jG (v := iv 0) rfl) <| jA (jG (v := .bool false) rfl) <| jE <| jB <| jM <| jX <| jj (.inl rfl) rfl (jN (v := iv 0) rfl) (jN (v := .bool false) rfl) (List.nil_sublist _) ?_
      refine ⟨?_, rfl⟩
      rw [readDec_ok hat, if_neg (fun h => by simp_all <;> omega)]
    have h_1d := h_1
    simp only [Bool.and_eq_true, Bool.and_eq_false_iff, decide_eq_true_eq, decide_eq_false_iff_not] at h_1d
    refine jY (b := true) rfl rfl rfl (cB (cN h_1)) <| jY (b := true) rfl rfl rfl (cB (cN h_1)) <| jY (b := true) rfl rfl rfl (cB (cN h_1)) <| jY (b := true) rfl rfl rfl (cB (cN h_1)) <| jA (jx (v := .bool true) (cB (cN h_1)) rfl) <| jE <| jB <| jR (cB rfl) <| jD <| jF ?_
    refine jA (jG (v := iv 0) rfl) <| jA (jG (v := .bool false) rfl) <| jE <| jB <| jM <| jX <| jj (.inl rfl) rfl (jN (v := iv 0) rfl) (jN (v := .bool false) rfl) (List.nil_sublist _) ?_
    refine ⟨?_, rfl⟩
    rw [readDec_ok hat, if_neg (fun h => by simp_all <;> omega)]
  refine jA (jC (v := .tuple #[iv n_, .iface te pe]) rfl) <| jA (jS (v := iv n_) rfl rfl) <| jA (jS (v := .iface te pe) rfl rfl) <| jA (jG (v := iv n_) rfl) <| jA (jG (v := .iface te pe) rfl) <| jE <| jB <| jD <| jD <| jF ?_
  refine jA (jC (v := .iface te pe) rfl) <| jA (PO.neqIfS Tryz.underlying162 rfl rfl) <| jA (jC (v := .bool true) rfl) <| jY (b := true) rfl rfl rfl (cB rfl) <| jY (b := true) rfl rfl rfl (cB rfl) <| jY (b := true) rfl rfl rfl (cB rfl) <| jA (jx (v := .bool true) (cB rfl) rfl) <| jA (jC (v := .bool true) rfl) <| jY (b := true) rfl rfl rfl (cB rfl) <| jY (b := true) rfl rfl rfl (cB rfl) ?_
  refine jY (b := true) rfl rfl rfl (cB rfl) <| jY (b := true) rfl rfl rfl (cB rfl) <| jA (jx (v := .bool true) (cB rfl) rfl) <| jE <| jB <| jR (cB rfl) <| jD <| jF <| jA (jG (v := iv 0) rfl) <| jA (jG (v := .bool false) rfl) ?_
  refine jE <| jB <| jM <| jX <| jj (.inl rfl) rfl (jN (v := iv 0) rfl) (jN (v := .bool false) rfl) (List.nil_sublist _) ?_
  rw [readDec_err hat]
  exact ⟨rfl, rfl⟩

theorem C_numOf (t : Str) (ht : t.length ≤ 281474976710656) :
    Ct Tryz.prog 141 [str t] [] (fun _ => True) (fun v A' => v = .int .i64 (numOf t) ∧ A' = []) := by
  refine Ct.intro Tryz.func141 rfl Tryz.ntmps141 (lb rfl) fun w0 hpre => ?_
  refine jD <| jF <| jA (jG (v := iv 0) rfl) <| jE <| jB <| jD <| jF <| jA (jC (v := str t) rfl) ?_
  refine jH rfl (jI [] Tryz.call166 rfl (C_readDecimal t ht) rfl (fun _ _ => trivial)) ?_
  rintro _ _ ⟨_, ⟨rfl, rfl⟩, rfl⟩
  refine jA (jC (v := .tuple #[iv ((readDec t).1), .bool ((readDec t).2)]) rfl) <| jA (jS (v := iv ((readDec t).1)) rfl rfl) <| jA (jS (v := .bool ((readDec t).2)) rfl rfl) <| jA (jG (v := iv ((readDec t).1)) rfl) <| jA (jG (v := .bool ((readDec t).2)) rfl) <| jE <| jB <| jD <| jD <| jF ?_
  refine jA (jC (v := iv ((readDec t).1)) rfl) <| jA (kS rfl rfl) <| jE <| jB ?_
  by_cases h_1 : 999 < ((readDec t).1)
  · refine jR (cB (dT h_1)) <| jD <| jF <| jA (jG (v := iv 0) rfl) <| jE <| jB <| jM <| jX <| jV (.inl rfl) rfl (jN (v := iv 0) rfl) (List.nil_sublist _) ?_
    refine ⟨?_, rfl⟩
    unfold numOf
    first | rw [if_pos (by omega)] | rw [if_neg (by omega)]
  refine jQ (cB (dF h_1)) <| jU <| jB <| jD <| jF <| jA (jC (v := iv ((readDec t).1)) rfl) <| jA (jG (v := iv ((readDec t).1)) rfl) <| jE <| jB <| jM ?_
  refine jV (.inl rfl) rfl (jN (v := iv ((readDec t).1)) rfl) (List.nil_sublist _) ?_
  refine ⟨?_, rfl⟩
  unfold numOf
  first | rw [if_pos (by omega)] | rw [if_neg (by omega)]

theorem C_num (p : Nat) (a0 a1 a2 : Option Addr) (c0_ c1 c2 : Nat) (m : MS) (key : Str) (h0 : m.s.length ≤ 10000000000) (h1 : m.r.length ≤ 10000000000) (h2 : m.w.length ≤ 10000000000) (hv : (getKey m.s key).length ≤ 281474976710656) :
    Ct Tryz.prog 118 [.pointer (some ⟨p, 0, none⟩), str key] [bk p 35 [.slice a0 m.s.length c0_, .slice a1 m.r.length c1, .slice a2 m.w.length c2], Res.row (.slice a0 m.s.length c0_) 80 2 m.s.length (m.s.flatMap encC), Res.row (.slice a1 m.r.length c1) 9 1 m.r.length (m.r.map str), Res.row (.slice a2 m.w.length c2) 9 1 m.w.length (m.w.map str)] (fun _ => True) (fun v A' => ∃ x0 y0 x1 y1 x2 y2, v = .int .i64 (m.num key).2 ∧ A' = [bk p 35 [.slice x0 (((m.num key).1).s.length) y0, .slice x1 (((m.num key).1).r.length) y1, .slice x2 (((m.num key).1).w.length) y2], Res.row (.slice x0 (((m.num key).1).s.length) y0) 80 2 ((((m.num key).1).s).length) ((((m.num key).1).s).flatMap encC), Res.row (.slice x1 (((m.num key).1).r.length) y1) 9 1 ((((m.num key).1).r).length) ((((m.num key).1).r).map str), Res.row (.slice x2 (((m.num key).1).w.length) y2) 9 1 ((((m.num key).1).w).length) ((((m.num key).1).w).map str)]) := by
  refine Ct.intro Tryz.func118 rfl Tryz.ntmps118 (lb rfl) fun w0 hpre => ?_
  refine jD <| jF <| jA (jG (v := iv 0) rfl) <| jE <| jB <| jD <| jF <| jA (jC (v := pv p) rfl) <| jA (jC (v := str key) rfl) ?_
  refine jH rfl (jI [0, 0, 0, 0] Tryz.call139 rfl (C_look p a0 a1 a2 c0_ c1 c2 m key (by omega) (by omega) (by omega)) rfl (fun _ _ => trivial)) ?_
  rintro _ _ ⟨_, ⟨a_1, c_2, a_3, c_4, a_5, c_6, rfl, rfl⟩, rfl⟩
  have hlk6 := look_len m key
  refine jH rfl (jI [] Tryz.call141 rfl (C_numOf ((MS.look m key).2) hv) rfl (fun _ _ => trivial)) ?_
  rintro _ _ ⟨_, ⟨rfl, rfl⟩, rfl⟩
  have hno6 := numOf_lo ((MS.look m key).2)
  refine jA (jG (v := iv (numOf ((MS.look m key).2))) rfl) <| jE <| jB <| jM <| jV (.inl rfl) rfl (jN (v := iv (numOf ((MS.look m key).2))) rfl) (List.Sublist.refl _) ?_
  exact ⟨_, _, _, _, _, _, rfl, rfl⟩

theorem C_setNum (p : Nat) (a0 a1 a2 : Option Addr) (c0_ c1 c2 : Nat) (m : MS) (key : Str) (n : Int) (h0 : m.s.length ≤ 10000000000) (h1 : m.r.length ≤ 10000000000) (h2 : m.w.length ≤ 10000000000) (hk : key.length ≤ 1000000000000) (hn0 : -9223372036854775808 ≤ n) (hn1 : n ≤ 9223372036854775807) :
    Ct Tryz.prog 124 [.pointer (some ⟨p, 0, none⟩), str key, .int .i64 n] [bk p 35 [.slice a0 m.s.length c0_, .slice a1 m.r.length c1, .slice a2 m.w.length c2], Res.row (.slice a0 m.s.length c0_) 80 2 m.s.length (m.s.flatMap encC), Res.row (.slice a1 m.r.length c1) 9 1 m.r.length (m.r.map str), Res.row (.slice a2 m.w.length c2) 9 1 m.w.length (m.w.map str)] (fun _ => True) (fun v A' => ∃ x0 y0 x1 y1 x2 y2, v = .tuple #[] ∧ A' = [bk p 35 [.slice x0 ((m.setNum key n).s.length) y0, .slice x1 ((m.setNum key n).r.length) y1, .slice x2 ((m.setNum key n).w.length) y2], Res.row (.slice x0 ((m.setNum key n).s.length) y0) 80 2 (((m.setNum key n).s).length) (((m.setNum key n).s).flatMap encC), Res.row (.slice x1 ((m.setNum key n).r.length) y1) 9 1 (((m.setNum key n).r).length) (((m.setNum key n).r).map str), Res.row (.slice x2 ((m.setNum key n).w.length) y2) 9 1 (((m.setNum key n).w).length) (((m.setNum key n).w).map str)]) := by
  refine Ct.intro Tryz.func124 rfl Tryz.ntmps124 (lb rfl) fun w0 hpre => ?_
  refine jD <| jF <| jA (jG (v := str []) rfl) <| jE <| jB <| jD <| jD <| jF <| jA (jC (v := iv n) rfl) ?_
  refine jH rfl (jI [] Tryz.call120 rfl (C_within n 1 999) rfl (fun _ _ => trivial)) ?_
  rintro _ _ ⟨_, ⟨rfl, rfl⟩, rfl⟩
  refine jE <| jB ?_
  rcases Bool.eq_false_or_eq_true (decide (1 ≤ n) && decide (n ≤ 999)) with h_1 | h_1
  · have h_1d := h_1
    simp only [Bool.and_eq_true, Bool.and_eq_false_iff, decide_eq_true_eq, decide_eq_false_iff_not] at h_1d
    refine jR (cB h_1) <| jF <| jA (jC (v := iv n) rfl) ?_
    refine jH rfl (jI [] Tryz.call71 rfl (C_decimal n (by omega) (by omega)) rfl (fun _ _ => trivial)) ?_
    rintro _ _ ⟨_, ⟨rfl, rfl⟩, rfl⟩
    refine jA (jG (v := str (dec n)) rfl) <| jE <| jB <| jF <| jA (jC (v := pv p) rfl) <| jA (jC (v := str key) rfl) <| jA (jC (v := str (dec n)) rfl) ?_
    refine jH rfl (jI [0, 0, 0, 0] Tryz.call127 rfl (C_lay p a0 a1 a2 c0_ c1 c2 m key (dec n) (by omega) (by omega) (by omega) (by omega)) rfl (fun _ _ => trivial)) ?_
    rintro _ _ ⟨_, ⟨a_2, c_3, a_4, c_5, a_6, c_7, rfl, rfl⟩, rfl⟩
    have hly7 := lay_len m key (dec n)
    refine jE <| Done.none (.inr rfl) rfl (List.Sublist.refl _) ?_
    have hb : m.setNum key n = m.lay key (dec n) := by unfold MS.setNum; rw [if_pos (by omega)]
    rw [hb]
    exact ⟨_, _, _, _, _, _, rfl, rfl⟩
  have h_1d := h_1
  simp only [Bool.and_eq_true, Bool.and_eq_false_iff, decide_eq_true_eq, decide_eq_false_iff_not] at h_1d
  refine jQ (cB h_1) <| jU <| jB <| jF <| jA (jC (v := pv p) rfl) <| jA (jC (v := str key) rfl) <| jA (jC (v := str []) rfl) ?_
  refine jH rfl (jI [0, 0, 0, 0] Tryz.call127 rfl (C_lay p a0 a1 a2 c0_ c1 c2 m key [] (by omega) (by omega) (by omega) (by omega)) rfl (fun _ _ => trivial)) ?_
  rintro _ _ ⟨_, ⟨a_8, c_9, a_10, c_11, a_12, c_13, rfl, rfl⟩, rfl⟩
  have hly13 := lay_len m key []
  refine jE <| Done.none (.inr rfl) rfl (List.Sublist.refl _) ?_
  have hb : m.setNum key n = m.lay key [] := by unfold MS.setNum; rw [if_neg (by omega)]
  rw [hb]
  exact ⟨_, _, _, _, _, _, rfl, rfl⟩

theorem C_bump (p : Nat) (a0 a1 a2 : Option Addr) (c0_ c1 c2 : Nat) (m : MS) (key : Str) (h0 : m.s.length ≤ 1000000000) (h1 : m.r.length ≤ 1000000000) (h2 : m.w.length ≤ 1000000000) (hv : (getKey m.s key).length ≤ 281474976710656) (hk : key.length ≤ 1000000000000) :
    Ct Tryz.prog 123 [.pointer (some ⟨p, 0, none⟩), str key] [bk p 35 [.slice a0 m.s.length c0_, .slice a1 m.r.length c1, .slice a2 m.w.length c2], Res.row (.slice a0 m.s.length c0_) 80 2 m.s.length (m.s.flatMap encC), Res.row (.slice a1 m.r.length c1) 9 1 m.r.length (m.r.map str), Res.row (.slice a2 m.w.length c2) 9 1 m.w.length (m.w.map str)] (fun _ => True) (fun v A' => ∃ x0 y0 x1 y1 x2 y2, v = .int .i64 (m.bump key).2 ∧ A' = [bk p 35 [.slice x0 (((m.bump key).1).s.length) y0, .slice x1 (((m.bump key).1).r.length) y1, .slice x2 (((m.bump key).1).w.length) y2], Res.row (.slice x0 (((m.bump key).1).s.length) y0) 80 2 ((((m.bump key).1).s).length) ((((m.bump key).1).s).flatMap encC), Res.row (.slice x1 (((m.bump key).1).r.length) y1) 9 1 ((((m.bump key).1).r).length) ((((m.bump key).1).r).map str), Res.row (.slice x2 (((m.bump key).1).w.length) y2) 9 1 ((((m.bump key).1).w).length) ((((m.bump key).1).w).map str)]) := by
  refine Ct.intro Tryz.func123 rfl Tryz.ntmps123 (lb rfl) fun w0 hpre => ?_
  refine jD <| jF <| jA (jG (v := iv 0) rfl) <| jE <| jB <| jD <| jF <| jA (jC (v := pv p) rfl) <| jA (jC (v := str key) rfl) ?_
  refine jH rfl (jI [0, 0, 0, 0] Tryz.call118 rfl (C_num p a0 a1 a2 c0_ c1 c2 m key (by omega) (by omega) (by omega) hv) rfl (fun _ _ => trivial)) ?_
  rintro _ _ ⟨_, ⟨a_1, c_2, a_3, c_4, a_5, c_6, rfl, rfl⟩, rfl⟩
  have hnm6 := num_len m key
  have hnn6 : 0 ≤ (MS.num m key).2 ∧ (MS.num m key).2 ≤ 999 := numOf_lo _
  refine jA (jg (c := ((MS.num m key).2) + 1) rfl rfl (wr (by omega))) <| jA (jG (v := iv (((MS.num m key).2) + 1)) rfl) <| jE <| jB <| jD <| jD <| jF <| jA (jC (v := iv (((MS.num m key).2) + 1)) rfl) <| jA (kS rfl rfl) <| jE ?_
  refine jB ?_
  by_cases h_7 : 999 < (((MS.num m key).2) + 1)
  · refine jR (cB (dT h_7)) <| jD <| jF <| jA (jG (v := iv 0) rfl) <| jE <| jB <| jM <| jX <| jV (.inl rfl) rfl (jN (v := iv 0) rfl) (List.Sublist.refl _) ?_
    have hb : m.bump key = ((m.num key).1, 0) := by unfold MS.bump; rw [if_pos (by omega)]
    rw [hb]
    exact ⟨_, _, _, _, _, _, rfl, rfl⟩
  refine jQ (cB (dF h_7)) <| jU <| jB <| jD <| jF <| jA (jC (v := pv p) rfl) <| jA (jC (v := str key) rfl) <| jA (jC (v := iv (((MS.num m key).2) + 1)) rfl) ?_
  refine jH rfl (jI [0, 0, 0, 0] Tryz.call124 rfl (C_setNum p a_1 a_3 a_5 c_2 c_4 c_6 ((MS.num m key).1) key (((MS.num m key).2) + 1) (by omega) (by omega) (by omega) (by omega) (by omega) (by omega)) rfl (fun _ _ => trivial)) ?_
  rintro _ _ ⟨_, ⟨a_8, c_9, a_10, c_11, a_12, c_13, rfl, rfl⟩, rfl⟩
  have hsn13 := setNum_len ((MS.num m key).1) key (((MS.num m key).2) + 1)
  refine jE <| jB <| jD <| jF <| jA (jC (v := iv (((MS.num m key).2) + 1)) rfl) <| jA (jG (v := iv (((MS.num m key).2) + 1)) rfl) <| jE <| jB <| jM <| jV (.inl rfl) rfl (jN (v := iv (((MS.num m key).2) + 1)) rfl) (List.Sublist.refl _) ?_
  have hb : m.bump key = ((m.num key).1.setNum key ((m.num key).2 + 1), (m.num key).2 + 1) := by unfold MS.bump; rw [if_neg (by omega)]
  rw [hb]
  exact ⟨_, _, _, _, _, _, rfl, rfl⟩

end Go.Proofs.YthdgcbdfcclgbaaGreatDoor

set_option linter.unusedSimpArgs false
set_option linter.unusedVariables false
set_option linter.unnecessarySimpa false
namespace Go.Proofs.YthdgcbdfcclgbaaGreatDoor
open Go Go.RowKit
attribute [local irreducible] JL JC JQ JO LO PO JA JX Ct

theorem C_l01In (n lo hi : Int) :
    Ct Tryz.prog 86 [.int .i64 n, .int .i64 lo, .int .i64 hi] [] (fun _ => True) (fun v A' => v = .bool (decide (lo ≤ n) && decide (n ≤ hi)) ∧ A' = []) := by
  refine Ct.intro Tryz.func86 rfl Tryz.ntmps86 (lb rfl) fun w0 hpre => ?_
  refine jD <| jF <| jA (jG (v := .bool false) rfl) <| jE <| jB <| jD <| jF <| jA (jC (v := iv n) rfl) <| jA (jC (v := iv lo) rfl) <| jA (kT rfl rfl) ?_
  refine jA (jC (v := .bool (decide (lo ≤ n))) rfl) ?_
  by_cases h_1 : lo ≤ n
  · refine jb rfl rfl rfl (cB (dT h_1)) (ja (jd (jC (v := iv n) rfl))) ?_
    rintro _ _ ⟨rfl, rfl⟩
    refine jb rfl rfl rfl (cB (dT h_1)) (ja (jd (jC (v := iv hi) rfl))) ?_
    rintro _ _ ⟨rfl, rfl⟩
    refine jb rfl rfl rfl (cB (dT h_1)) (ja (jd (PO.leq rfl rfl))) ?_
    rintro _ _ ⟨rfl, rfl⟩
    refine jA (jx (v := .bool (decide (n ≤ hi))) (cB (dT h_1)) rfl) <| jA (jG (v := .bool (decide (n ≤ hi))) rfl) <| jE <| jB <| jM <| jV (.inl rfl) rfl (jN (v := .bool (decide (n ≤ hi))) rfl) (List.nil_sublist _) ?_
    refine ⟨?_, rfl⟩
    simp_all <;> omega
  refine jY (b := false) rfl rfl rfl (cB (dF h_1)) <| jY (b := false) rfl rfl rfl (cB (dF h_1)) <| jY (b := false) rfl rfl rfl (cB (dF h_1)) <| jA (jw (v := .bool false) (cB (dF h_1)) rfl) <| jA (jG (v := .bool false) rfl) <| jE <| jB <| jM <| jV (.inl rfl) rfl (jN (v := .bool false) rfl) (List.nil_sublist _) ?_
  refine ⟨?_, rfl⟩
  simp_all <;> omega

theorem C_sKeyOk (key : Str) (hk : key.length ≤ 1000000000000) :
    Ct Tryz.prog 168 [str key] [] (fun _ => True) (fun v A' => v = .bool (keyOk key) ∧ A' = []) := by
  refine Ct.intro Tryz.func168 rfl Tryz.ntmps168 (lb rfl) fun w0 hpre => ?_
  refine jD <| jF <| jA (jG (v := .bool false) rfl) <| jE <| jB <| jD <| jD <| jF <| jA (jG (v := iv 0) rfl) <| jE ?_
  refine jB <| jm <| kE (fun k_ e_ L_ => ∃ j : Nat, (j ≤ key.length) ∧ (∀ i, i < j → i < key.length → keyByte (key.getD i 0) = true) ∧ e_ 0 = str key ∧ e_ 3 = nv j ∧ L_ = [] ∧ k_ = key.length - j) _ ⟨0, by omega, (fun i hi => absurd hi (Nat.not_lt_zero i)), rfl, rfl, rfl, rfl⟩ ?_
  rintro _ e_1 _ ⟨j, hj, hN, he_2, he_3, rfl, rfl⟩
  refine jD <| jD <| jF <| jA (jC (v := nv j) he_3) <| jA (jC (v := str key) he_2) <| jA (kJ kY rfl) <| jA (js rfl rfl) <| jE <| jB ?_
  by_cases h_4 : ((j : Nat) : Int) < (key.length : Int)
  · refine jR (cB (dT h_4)) <| jU <| jB <| jD <| jm <| jD <| jF <| jA (jC (v := str key) he_2) <| jA (jC (v := nv j) he_3) <| jA (PO.indexS (i := j) (c := key.getD j 0) kY rfl rfl (getD_some (by omega))) ?_
    have hu_5 := UInt8.toNat_lt (key.getD j 0)
    refine jA (PO.convI (c := ((key.getD j 0).toNat : Int)) kk kr rfl (wr (by omega))) ?_
    refine jH rfl (jI [] Tryz.call86 rfl (C_l01In ((key.getD j 0).toNat : Int) 33 126) rfl (fun _ _ => trivial)) ?_
    rintro _ _ ⟨_, ⟨rfl, rfl⟩, rfl⟩
    refine jA (kA rfl) <| jA (jC (v := .bool (!(decide (33 ≤ ((key.getD j 0).toNat : Int)) && decide (((key.getD j 0).toNat : Int) ≤ 126)))) rfl) ?_
    rcases Bool.eq_false_or_eq_true (decide (33 ≤ ((key.getD j 0).toNat : Int)) && decide (((key.getD j 0).toNat : Int) ≤ 126)) with h_6 | h_6
    · have h_6d := h_6
      simp only [Bool.and_eq_true, Bool.and_eq_false_iff, decide_eq_true_eq, decide_eq_false_iff_not] at h_6d
      refine jb rfl rfl rfl (cB (cN h_6)) (ja (jd (jC (v := str key) he_2))) ?_
      rintro _ _ ⟨rfl, rfl⟩
      refine jb rfl rfl rfl (cB (cN h_6)) (ja (jd (jC (v := nv j) he_3))) ?_
      rintro _ _ ⟨rfl, rfl⟩
      refine jb rfl rfl rfl (cB (cN h_6)) (ja (jd (PO.indexS (i := j) (c := key.getD j 0) kY rfl rfl (getD_some (by omega))))) ?_
      rintro _ _ ⟨rfl, rfl⟩
      have hu_7 := UInt8.toNat_lt (key.getD j 0)
      refine jb rfl rfl rfl (cB (cN h_6)) (ja (jd (ju rfl rfl))) ?_
      rintro _ _ ⟨rfl, rfl⟩
      refine jA (jw (v := .bool (decide (((key.getD j 0).toNat : Int) = 42))) (cB (cN h_6)) rfl) <| jE <| jB ?_
      by_cases h_8 : ((key.getD j 0).toNat : Int) = 42
      · refine jR (cB (dT h_8)) <| jD <| jF <| jA (jG (v := .bool false) rfl) <| jE <| jB <| jM <| jz <| jX <| jX ?_
        refine jz <| jX <| jV (.inl rfl) rfl (jN (v := .bool false) rfl) (List.nil_sublist _) ?_
        refine ⟨?_, rfl⟩
        rw [keyOk_bad (j := j) (by omega) (by simp only [keyByte, Bool.and_eq_true, Bool.and_eq_false_iff, decide_eq_true_eq, decide_eq_false_iff_not, Bool.not_eq_true', Bool.not_eq_false']; omega)]
      refine jQ (cB (dF h_8)) <| jU <| jk <| jB <| jF <| jA (jC (v := nv j) he_3) <| jA (jg (c := ((j + 1 : Nat) : Int)) rfl rfl (wr (by omega))) <| jA (jG (v := iv ((j + 1 : Nat) : Int)) rfl) <| jE ?_
      refine jt (key.length - (j + 1)) (by omega) ⟨j + 1, by omega, (fun i hi hl => if h : i = j then h ▸ (by simp only [keyByte, Bool.and_eq_true, Bool.and_eq_false_iff, decide_eq_true_eq, decide_eq_false_iff_not, Bool.not_eq_true', Bool.not_eq_false']; omega : keyByte (key.getD j 0) = true) else hN i (by omega) hl), he_2, rfl, rfl, rfl⟩
    have h_6d := h_6
    simp only [Bool.and_eq_true, Bool.and_eq_false_iff, decide_eq_true_eq, decide_eq_false_iff_not] at h_6d
    refine jY (b := true) rfl rfl rfl (cB (cN h_6)) <| jY (b := true) rfl rfl rfl (cB (cN h_6)) <| jY (b := true) rfl rfl rfl (cB (cN h_6)) <| jY (b := true) rfl rfl rfl (cB (cN h_6)) <| jA (jx (v := .bool true) (cB (cN h_6)) rfl) <| jE <| jB <| jR (cB rfl) <| jD <| jF ?_
    refine jA (jG (v := .bool false) rfl) <| jE <| jB <| jM <| jz <| jX <| jX <| jz <| jX <| jV (.inl rfl) rfl (jN (v := .bool false) rfl) (List.nil_sublist _) ?_
    refine ⟨?_, rfl⟩
    rw [keyOk_bad (j := j) (by omega) (by simp only [keyByte, Bool.and_eq_true, Bool.and_eq_false_iff, decide_eq_true_eq, decide_eq_false_iff_not, Bool.not_eq_true', Bool.not_eq_false']; omega)]
  refine jQ (cB (dF h_4)) <| kB <| jn <| jn <| kC <| jB <| jD <| jF <| jA (jC (v := str key) he_2) <| jA (kJ kY rfl) ?_
  refine jH rfl (jI [] Tryz.call86 rfl (C_l01In (key.length : Int) 1 40) rfl (fun _ _ => trivial)) ?_
  rintro _ _ ⟨_, ⟨rfl, rfl⟩, rfl⟩
  refine jA (jG (v := .bool (decide (1 ≤ (key.length : Int)) && decide ((key.length : Int) ≤ 40))) rfl) <| jE <| jB <| jM <| jV (.inl rfl) rfl (jN (v := .bool (decide (1 ≤ (key.length : Int)) && decide ((key.length : Int) ≤ 40))) rfl) (List.nil_sublist _) ?_
  refine ⟨?_, rfl⟩
  rw [keyOk_good (j := j) (by omega) hN]
  exact cB (by congr 1 <;> exact decide_eq_decide.2 (by omega))

theorem C_sGetKey (a : Option Addr) (c : Nat) (s : List Cell) (key : Str) (hn : s.length ≤ 1000000000000) :
    Ct Tryz.prog 151 [.slice a s.length c, str key] [] (fun w_ => Sees w_ (.slice a s.length c) 2 s.length (s.flatMap encC)) (fun v A' => v = str (getKey s key) ∧ A' = []) := by
  refine Ct.intro Tryz.func151 rfl Tryz.ntmps151 (lb rfl) fun w0 hpre => ?_
  have hs_a : Sees w0 _ _ _ _ := hpre
  refine jD <| jF <| jA (jG (v := str []) rfl) <| jE <| jB <| jD <| jD <| jF <| jA (jG (v := iv 0) rfl) <| jE ?_
  refine jB <| jm <| kE (fun k_ e_ L_ => ∃ j : Nat, (j ≤ s.length) ∧ (getKey (s.drop j) key = getKey s key) ∧ e_ 0 = .slice a s.length c ∧ e_ 1 = str key ∧ e_ 5 = nv j ∧ L_ = [] ∧ k_ = s.length - j) _ ⟨0, by omega, rfl, rfl, rfl, rfl, rfl, rfl⟩ ?_
  rintro _ e_1 _ ⟨j, hj, hR, he_2, he_3, he_4, rfl, rfl⟩
  refine jD <| jD <| jF <| jA (jC (v := nv j) he_4) <| jA (jC (v := .slice a s.length c) he_2) <| jA (kK kc rfl) <| jA (js rfl rfl) <| jE <| jB ?_
  by_cases h_5 : ((j : Nat) : Int) < ((s.length : Nat) : Int)
  · have hlt : j < s.length := by omega
    refine jR (cB (dT h_5)) <| jU <| jB <| jD <| jm <| jD <| jF <| jA (jC (v := .slice a s.length c) he_2) <| jA (jC (v := nv j) he_4) ?_
    obtain ⟨hr_6, hr_6b, -⟩ := sees_some hs_a (by omega)
    refine jA (kH (i := j) kc ke hr_6 hr_6b rfl rfl (by omega)) <| jA (PO.fieldAddrE fo80_0 hr_6 rfl) <| jT (LO.loadS1 (v := str ((s.getD j c0).1)) hs_a nM rfl kZ (atC1 (by omega))) <| jA (jC (v := str key) he_3) <| jA (PO.eqlS rfl rfl) <| jE <| jB ?_
    by_cases h_7 : ((s.getD j c0).1) = key
    · have hk := h_7
      refine jR (cB (dT h_7)) <| jD <| jF <| jA (jC (v := .slice a s.length c) he_2) <| jA (jC (v := nv j) he_4) <| jA (kH (i := j) kc ke hr_6 hr_6b rfl rfl (by omega)) <| jA (PO.fieldAddrE fo80_1 hr_6 rfl) <| jT (LO.loadS1 (v := str ((s.getD j c0).2)) hs_a nM rfl kZ (atC2 (by omega))) <| jA (jG (v := str ((s.getD j c0).2)) rfl) <| jE ?_
      refine jB <| jM <| jz <| jX <| jX <| jz <| jX <| jV (.inl rfl) rfl (jN (v := str ((s.getD j c0).2)) rfl) (List.nil_sublist _) ?_
      refine ⟨?_, rfl⟩
      rw [drop_at (getD_some (d := c0) hlt), getKey, if_pos hk] at hR
      rw [← hR]
    have hk := h_7
    refine jQ (cB (dF h_7)) <| jU <| jk <| jB <| jF <| jA (jC (v := nv j) he_4) <| jA (jg (c := ((j + 1 : Nat) : Int)) rfl rfl (wr (by omega))) <| jA (jG (v := iv ((j + 1 : Nat) : Int)) rfl) <| jE ?_
    refine jt (s.length - (j + 1)) (by omega) ⟨j + 1, by omega, (by rw [drop_at (getD_some (d := c0) hlt), getKey, if_neg hk] at hR; exact hR), he_2, he_3, rfl, rfl, rfl⟩
  refine jQ (cB (dF h_5)) <| kB <| jn <| jn <| kC <| jB <| jD <| jF <| jA (jG (v := str []) rfl) <| jE ?_
  refine jB <| jM <| jV (.inl rfl) rfl (jN (v := str []) rfl) (List.nil_sublist _) ?_
  refine ⟨?_, rfl⟩
  rw [List.drop_of_length_le (by omega)] at hR
  rw [← hR]
  rfl

theorem C_sPutKey (a : Option Addr) (c : Nat) (s : List Cell) (key val : Str) (hn : s.length ≤ 100000000000) (hk_ : key.length ≤ 1000000000000) :
    Ct Tryz.prog 144 [.slice a s.length c, str key, str val] [] (fun w_ => Sees w_ (.slice a s.length c) 2 s.length (s.flatMap encC)) (fun v A' => ∃ a' c', v = .slice a' (putKey s key val).length c' ∧ A' = [.row (.slice a' (putKey s key val).length c') 80 2 (putKey s key val).length ((putKey s key val).flatMap encC)]) := by
  refine Ct.intro Tryz.func144 rfl Tryz.ntmps144 (lb rfl) fun w0 hpre => ?_
  have hs_a : Sees w0 _ _ _ _ := hpre
  refine jD <| jF <| jA (jG (v := .slice none 0 0) rfl) <| jE <| jB <| jD <| jF ?_
  refine jH rfl (kI (ps := []) (cur := #[]) kc ke kt rfl (by kernel_rfl) (by decide) (by decide)) ?_
  rintro _ _ ⟨a_1, rfl, rfl⟩
  refine jA (jG (v := .slice a_1 0 0) rfl) <| jE <| jB <| jD <| jD <| jF <| jA (jC (v := str key) rfl) ?_
  refine jH rfl (jI [] Tryz.call168 rfl (C_sKeyOk key (by omega)) rfl (fun _ _ => trivial)) ?_
  rintro _ _ ⟨_, ⟨rfl, rfl⟩, rfl⟩
  refine jA (kA rfl) <| jA (jC (v := .bool (!(keyOk key))) rfl) ?_
  rcases Bool.eq_false_or_eq_true (keyOk key) with h_2 | h_2
  · have hkey := h_2
    refine jb rfl rfl rfl (cB (cN h_2)) (ja (jd (jC (v := str val) rfl))) ?_
    rintro _ _ ⟨rfl, rfl⟩
    refine jb rfl rfl rfl (cB (cN h_2)) (ja (jd (kJ kY rfl))) ?_
    rintro _ _ ⟨rfl, rfl⟩
    refine jb rfl rfl rfl (cB (cN h_2)) (ja (jd (kS rfl rfl))) ?_
    rintro _ _ ⟨rfl, rfl⟩
    refine jA (jw (v := .bool (decide (60 < (val.length : Int)))) (cB (cN h_2)) rfl) <| jE <| jB ?_
    by_cases h_3 : 60 < (val.length : Int)
    · refine jR (cB (dT h_3)) <| jD <| jF <| jA (jC (v := .slice a_1 0 0) rfl) <| jA (jC (v := .slice a s.length c) rfl) ?_
      refine jH rfl (kF 0 (q := s.length) (news := s.flatMap encC) (n' := s.length) (cs' := s.flatMap encC) rfl kc kc ky rfl (by' := 32) rfl rfl rfl rfl rfl (fun w hw => Src.sees (hw.seeOut_ hs_a nM) (oneC _)) (by (try simp only [LE]); omega) (by (try simp only [LE]); omega) (by (try simp only [List.length_take, List.length_drop]); first | rfl | omega) rfl) ?_
      rintro _ _ ⟨a_4, c_5, rfl, rfl⟩
      refine jA (jG (v := .slice a_4 s.length c_5) rfl) <| jE <| jB <| jM <| jX <| jV (.inl rfl) rfl (jN (v := .slice a_4 s.length c_5) rfl) (List.Sublist.refl _) ?_
      have he := (putKey_bad2 (by omega) : putKey s key val = _)
      exact ⟨_, _, by rw [he] <;> rfl, by rw [he] <;> rfl⟩
    refine jQ (cB (dF h_3)) <| jU <| jB <| jD <| jF <| jA (jC (v := str val) rfl) <| jA (PO.eqlS rfl rfl) <| jA (jG (v := .bool (decide (val = []))) rfl) <| jE <| jB ?_
    refine jD <| jD <| jF <| jA (jG (v := iv 0) rfl) <| jE <| jB <| jm <| kE (fun k_ e_ L_ => ∃ j : Nat, ∃ xa : Option Addr, ∃ xc : Nat, ∃ o_ : List Cell, ∃ done : Bool, (j ≤ s.length) ∧ (o_.length ≤ 2 * j) ∧ (o_ ++ putL key val done (s.drop j) = putKey s key val) ∧ e_ 0 = .slice a s.length c ∧ e_ 1 = str key ∧ e_ 2 = str val ∧ e_ 6 = .slice none 0 0 ∧ e_ 7 = .slice xa o_.length xc ∧ e_ 8 = .bool done ∧ e_ 9 = nv j ∧ L_ = [Res.row (.slice xa o_.length xc) 80 2 o_.length (o_.flatMap encC)] ∧ k_ = s.length - j) _ ⟨0, a_1, 0, [], (decide (val = [])), by omega, (by simp), (putL_put hkey (by omega)), rfl, rfl, rfl, rfl, rfl, rfl, rfl, rfl, rfl⟩ ?_
    rintro _ e_6 _ ⟨j, xa, xc, o_, done, hj, hl, hR, he_7, he_8, he_9, he_10, he_11, he_12, he_13, rfl, rfl⟩
    refine jD <| jD <| jF <| jA (jC (v := nv j) he_13) <| jA (jC (v := .slice a s.length c) he_7) <| jA (kK kc rfl) <| jA (js rfl rfl) <| jE <| jB ?_
    by_cases h_14 : ((j : Nat) : Int) < ((s.length : Nat) : Int)
    · have hlt : j < s.length := by omega
      refine jR (cB (dT h_14)) <| jU <| jB <| jD <| jm <| jD <| jD <| jF <| jA (jC (v := .bool done) he_12) <| jA (kA rfl) ?_
      refine jA (jC (v := .bool (!done)) rfl) ?_
      rcases Bool.eq_false_or_eq_true (done) with h_15 | h_15
      · have hd := h_15
        refine jY (b := false) rfl rfl rfl (cB (cN h_15)) <| jY (b := false) rfl rfl rfl (cB (cN h_15)) <| jY (b := false) rfl rfl rfl (cB (cN h_15)) <| jY (b := false) rfl rfl rfl (cB (cN h_15)) <| jY (b := false) rfl rfl rfl (cB (cN h_15)) <| jY (b := false) rfl rfl rfl (cB (cN h_15)) <| jY (b := false) rfl rfl rfl (cB (cN h_15)) <| jA (jw (v := .bool false) (cB (cN h_15)) rfl) <| jE <| jB ?_
        refine jQ (cB rfl) <| jU <| jB <| jD <| jF <| jA (jC (v := .slice a s.length c) he_7) <| jA (jC (v := nv j) he_13) ?_
        obtain ⟨hr_16, hr_16b, -⟩ := sees_some hs_a (by omega)
        refine jA (kH (i := j) kc ke hr_16 hr_16b rfl rfl (by omega)) <| jA (PO.fieldAddrE fo80_0 hr_16 rfl) <| jT (LO.loadS1 (v := str ((s.getD j c0).1)) hs_a nM rfl kZ (atC1 (by omega))) <| jA (jC (v := str key) he_8) <| jA (PO.neqS rfl rfl) <| jE <| jB ?_
        by_cases h_17 : ((s.getD j c0).1) = key
        · have hk := h_17
          refine jQ (cB (cN (dT h_17))) <| jU <| jk <| jB <| jF <| jA (jC (v := nv j) he_13) <| jA (jg (c := ((j + 1 : Nat) : Int)) rfl rfl (wr (by omega))) <| jA (jG (v := iv ((j + 1 : Nat) : Int)) rfl) <| jE <| jr [0] (A := [Res.row (.slice xa o_.length xc) 80 2 o_.length (o_.flatMap encC)]) rfl ?_
          refine jt (s.length - (j + 1)) (by omega) ⟨j + 1, xa, xc, o_, done, by omega, (by (try simp only [List.length_append, List.length_cons, List.length_nil]); omega), (by rw [putL_step hlt] at hR; simp only [hd, hk, Bool.not_true, Bool.not_false, Bool.true_and, Bool.false_and, Bool.or_true, Bool.true_or, Bool.or_false, Bool.false_or, if_true, if_false, Bool.false_eq_true, List.nil_append, List.append_nil, List.append_assoc] at hR ⊢; exact hR), he_7, he_8, he_9, he_10, he_11, he_12, rfl, rfl, rfl⟩
        have hk := h_17
        refine jR (cB (cN (dF h_17))) <| jF <| jA (jC (v := .slice xa o_.length xc) he_11) <| jA (jC (v := .slice a s.length c) he_7) <| jA (jC (v := nv j) he_13) <| jA (kH (i := j) kc ke hr_16 hr_16b rfl rfl (by omega)) <| jT (LO.loadSK (vs := [str ((s.getD j c0).1), str ((s.getD j c0).2)]) hs_a nM rfl kz ke (atC (by omega)) rfl (by decide)) ?_
        refine jH rfl (kI (ps := [(0, .agg #[str ((s.getD j c0).1), str ((s.getD j c0).2)])]) (cur := #[str ((s.getD j c0).1), str ((s.getD j c0).2)]) kc ke kt rfl (by kernel_rfl) (by decide) (by decide)) ?_
        rintro _ _ ⟨a_18, rfl, rfl⟩
        refine jH rfl (kF 1 (q := 1) (news := ([((s.getD j c0).1, (s.getD j c0).2)] : List Cell).flatMap encC) (n' := (o_ ++ ([((s.getD j c0).1, (s.getD j c0).2)] : List Cell)).length) (cs' := (o_ ++ ([((s.getD j c0).1, (s.getD j c0).2)] : List Cell)).flatMap encC) rfl kc kc ky rfl (by' := 32) rfl rfl rfl rfl rfl (fun w hw => Src.sees (hw.see (i := 0) rfl) (oneC _)) (by (try simp only [LE]); omega) (by (try simp only [LE]); omega) (by simp only [List.length_append, List.length_take, List.length_drop, List.length_cons, List.length_nil] <;> first | rfl | omega) (by simp only [List.flatMap_append])) ?_
        rintro _ _ ⟨a_19, c_20, rfl, rfl⟩
        refine jA (jG (v := .slice a_19 ((o_ ++ ([((s.getD j c0).1, (s.getD j c0).2)] : List Cell)).length) c_20) rfl) <| jE <| jk <| jB <| jF <| jA (jC (v := nv j) he_13) <| jA (jg (c := ((j + 1 : Nat) : Int)) rfl rfl (wr (by omega))) <| jA (jG (v := iv ((j + 1 : Nat) : Int)) rfl) <| jE <| jr [1] (A := [Res.row (.slice a_19 ((o_ ++ ([((s.getD j c0).1, (s.getD j c0).2)] : List Cell)).length) c_20) 80 2 ((o_ ++ ([((s.getD j c0).1, (s.getD j c0).2)] : List Cell)).length) ((o_ ++ ([((s.getD j c0).1, (s.getD j c0).2)] : List Cell)).flatMap encC)]) rfl ?_
        refine jt (s.length - (j + 1)) (by omega) ⟨j + 1, a_19, c_20, (o_ ++ ([((s.getD j c0).1, (s.getD j c0).2)] : List Cell)), done, by omega, (by (try simp only [List.length_append, List.length_cons, List.length_nil]); omega), (by rw [putL_step hlt] at hR; simp only [hd, hk, Bool.not_true, Bool.not_false, Bool.true_and, Bool.false_and, Bool.or_true, Bool.true_or, Bool.or_false, Bool.false_or, if_true, if_false, Bool.false_eq_true, List.nil_append, List.append_nil, List.append_assoc] at hR ⊢; exact hR), he_7, he_8, he_9, he_10, rfl, he_12, rfl, rfl, rfl⟩
      have hd := h_15
      refine jb rfl rfl rfl (cB (cN h_15)) (ja (jd (jC (v := .slice a s.length c) he_7))) ?_
      rintro _ _ ⟨rfl, rfl⟩
      refine jb rfl rfl rfl (cB (cN h_15)) (ja (jd (jC (v := nv j) he_13))) ?_
      rintro _ _ ⟨rfl, rfl⟩
      obtain ⟨hr_21, hr_21b, -⟩ := sees_some hs_a (by omega)
      refine jb rfl rfl rfl (cB (cN h_15)) (ja (jd (kH (i := j) kc ke hr_21 hr_21b rfl rfl (by omega)))) ?_
      rintro _ _ ⟨rfl, rfl⟩
      refine jb rfl rfl rfl (cB (cN h_15)) (ja (jd (PO.fieldAddrE fo80_0 hr_21 rfl))) ?_
      rintro _ _ ⟨rfl, rfl⟩
      refine jb rfl rfl rfl (cB (cN h_15)) (ja (LO.loadS1 (v := str ((s.getD j c0).1)) hs_a nM rfl kZ (atC1 (by omega)))) ?_
      rintro _ _ ⟨rfl, rfl⟩
      refine jb rfl rfl rfl (cB (cN h_15)) (ja (jd (jC (v := str key) he_8))) ?_
      rintro _ _ ⟨rfl, rfl⟩
      refine jb rfl rfl rfl (cB (cN h_15)) (ja (jd (PO.gtrS rfl rfl))) ?_
      rintro _ _ ⟨rfl, rfl⟩
      refine jA (jx (v := .bool (!Op.bytesLess ((s.getD j c0).1) key && !decide (((s.getD j c0).1) = key))) (cB (cN h_15)) rfl) <| jE <| jB ?_
      rcases Bool.eq_false_or_eq_true (!Op.bytesLess ((s.getD j c0).1) key && !decide (((s.getD j c0).1) = key)) with h_22 | h_22
      · have h_22d := h_22
        simp only [Bool.and_eq_true, Bool.and_eq_false_iff, decide_eq_true_eq, decide_eq_false_iff_not] at h_22d
        have hg : gtrB (s.getD j c0).1 key = true := h_22
        refine jR (cB h_22) <| jD <| jF <| jA (jC (v := .slice xa o_.length xc) he_11) <| jA (jC (v := str key) he_8) <| jA (jC (v := str val) he_9) <| jA (kP (ps := [(0, str key), (1, str val)]) (cs := [str key, str val]) rfl (by kernel_rfl)) ?_
        refine jH rfl (kI (ps := [(0, .agg #[str key, str val])]) (cur := #[str key, str val]) kc ke kt rfl (by kernel_rfl) (by decide) (by decide)) ?_
        rintro _ _ ⟨a_23, rfl, rfl⟩
        refine jH rfl (kF 1 (q := 1) (news := ([(key, val)] : List Cell).flatMap encC) (n' := (o_ ++ ([(key, val)] : List Cell)).length) (cs' := (o_ ++ ([(key, val)] : List Cell)).flatMap encC) rfl kc kc ky rfl (by' := 32) rfl rfl rfl rfl rfl (fun w hw => Src.sees (hw.see (i := 0) rfl) (oneC _)) (by (try simp only [LE]); omega) (by (try simp only [LE]); omega) (by simp only [List.length_append, List.length_take, List.length_drop, List.length_cons, List.length_nil] <;> first | rfl | omega) (by simp only [List.flatMap_append])) ?_
        rintro _ _ ⟨a_24, c_25, rfl, rfl⟩
        refine jA (jG (v := .slice a_24 ((o_ ++ ([(key, val)] : List Cell)).length) c_25) rfl) <| jE <| jB <| jF <| jA (jG (v := .bool true) rfl) <| jE <| jB <| jD <| jF <| jA (jC (v := .slice a s.length c) he_7) ?_
        refine jA (jC (v := nv j) he_13) <| jA (kH (i := j) kc ke hr_21 hr_21b rfl rfl (by omega)) <| jA (PO.fieldAddrE fo80_0 hr_21 rfl) <| jT (LO.loadS1 (v := str ((s.getD j c0).1)) hs_a nM rfl kZ (atC1 (by omega))) <| jA (jC (v := str key) he_8) <| jA (PO.neqS rfl rfl) <| jE <| jB ?_
        by_cases h_26 : ((s.getD j c0).1) = key
        · have hk := h_26
          have hg2 : gtrB key key = true := hk ▸ hg
          refine jQ (cB (cN (dT h_26))) <| jU <| jk <| jB <| jF <| jA (jC (v := nv j) he_13) <| jA (jg (c := ((j + 1 : Nat) : Int)) rfl rfl (wr (by omega))) <| jA (jG (v := iv ((j + 1 : Nat) : Int)) rfl) <| jE <| jr [1] (A := [Res.row (.slice a_24 ((o_ ++ ([(key, val)] : List Cell)).length) c_25) 80 2 ((o_ ++ ([(key, val)] : List Cell)).length) ((o_ ++ ([(key, val)] : List Cell)).flatMap encC)]) rfl ?_
          refine jt (s.length - (j + 1)) (by omega) ⟨j + 1, a_24, c_25, (o_ ++ ([(key, val)] : List Cell)), true, by omega, (by (try simp only [List.length_append, List.length_cons, List.length_nil]); omega), (by rw [putL_step hlt] at hR; simp only [hd, hg, hg2, hk, Bool.not_true, Bool.not_false, Bool.true_and, Bool.false_and, Bool.or_true, Bool.true_or, Bool.or_false, Bool.false_or, if_true, if_false, Bool.false_eq_true, List.nil_append, List.append_nil, List.append_assoc] at hR ⊢; exact hR), he_7, he_8, he_9, he_10, rfl, rfl, rfl, rfl, rfl⟩
        have hk := h_26
        refine jR (cB (cN (dF h_26))) <| jF <| jA (jC (v := .slice a_24 ((o_ ++ ([(key, val)] : List Cell)).length) c_25) rfl) <| jA (jC (v := .slice a s.length c) he_7) <| jA (jC (v := nv j) he_13) <| jA (kH (i := j) kc ke hr_21 hr_21b rfl rfl (by omega)) <| jT (LO.loadSK (vs := [str ((s.getD j c0).1), str ((s.getD j c0).2)]) hs_a nM rfl kz ke (atC (by omega)) rfl (by decide)) ?_
        refine jH rfl (kI (ps := [(0, .agg #[str ((s.getD j c0).1), str ((s.getD j c0).2)])]) (cur := #[str ((s.getD j c0).1), str ((s.getD j c0).2)]) kc ke kt rfl (by kernel_rfl) (by decide) (by decide)) ?_
        rintro _ _ ⟨a_27, rfl, rfl⟩
        refine jH rfl (kF 2 (q := 1) (news := ([((s.getD j c0).1, (s.getD j c0).2)] : List Cell).flatMap encC) (n' := ((o_ ++ ([(key, val)] : List Cell)) ++ ([((s.getD j c0).1, (s.getD j c0).2)] : List Cell)).length) (cs' := ((o_ ++ ([(key, val)] : List Cell)) ++ ([((s.getD j c0).1, (s.getD j c0).2)] : List Cell)).flatMap encC) rfl kc kc ky rfl (by' := 32) rfl rfl rfl rfl rfl (fun w hw => Src.sees (hw.see (i := 0) rfl) (oneC _)) (by (try simp only [LE]); omega) (by (try simp only [LE]); omega) (by simp only [List.length_append, List.length_take, List.length_drop, List.length_cons, List.length_nil] <;> first | rfl | omega) (by simp only [List.flatMap_append])) ?_
        rintro _ _ ⟨a_28, c_29, rfl, rfl⟩
        refine jA (jG (v := .slice a_28 (((o_ ++ ([(key, val)] : List Cell)) ++ ([((s.getD j c0).1, (s.getD j c0).2)] : List Cell)).length) c_29) rfl) <| jE <| jk <| jB <| jF <| jA (jC (v := nv j) he_13) <| jA (jg (c := ((j + 1 : Nat) : Int)) rfl rfl (wr (by omega))) <| jA (jG (v := iv ((j + 1 : Nat) : Int)) rfl) <| jE <| jr [2] (A := [Res.row (.slice a_28 (((o_ ++ ([(key, val)] : List Cell)) ++ ([((s.getD j c0).1, (s.getD j c0).2)] : List Cell)).length) c_29) 80 2 (((o_ ++ ([(key, val)] : List Cell)) ++ ([((s.getD j c0).1, (s.getD j c0).2)] : List Cell)).length) (((o_ ++ ([(key, val)] : List Cell)) ++ ([((s.getD j c0).1, (s.getD j c0).2)] : List Cell)).flatMap encC)]) rfl ?_
        refine jt (s.length - (j + 1)) (by omega) ⟨j + 1, a_28, c_29, ((o_ ++ ([(key, val)] : List Cell)) ++ ([((s.getD j c0).1, (s.getD j c0).2)] : List Cell)), true, by omega, (by (try simp only [List.length_append, List.length_cons, List.length_nil]); omega), (by rw [putL_step hlt] at hR; simp only [hd, hg, hk, Bool.not_true, Bool.not_false, Bool.true_and, Bool.false_and, Bool.or_true, Bool.true_or, Bool.or_false, Bool.false_or, if_true, if_false, Bool.false_eq_true, List.nil_append, List.append_nil, List.append_assoc] at hR ⊢; exact hR), he_7, he_8, he_9, he_10, rfl, rfl, rfl, rfl, rfl⟩
      have h_22d := h_22
      simp only [Bool.and_eq_true, Bool.and_eq_false_iff, decide_eq_true_eq, decide_eq_false_iff_not] at h_22d
      have hg : gtrB (s.getD j c0).1 key = false := h_22
      refine jQ (cB h_22) <| jU <| jB <| jD <| jF <| jA (jC (v := .slice a s.length c) he_7) <| jA (jC (v := nv j) he_13) <| jA (kH (i := j) kc ke hr_21 hr_21b rfl rfl (by omega)) <| jA (PO.fieldAddrE fo80_0 hr_21 rfl) <| jT (LO.loadS1 (v := str ((s.getD j c0).1)) hs_a nM rfl kZ (atC1 (by omega))) ?_
      refine jA (jC (v := str key) he_8) <| jA (PO.neqS rfl rfl) <| jE <| jB ?_
      by_cases h_30 : ((s.getD j c0).1) = key
      · have hk := h_30
        have hg2 : gtrB key key = false := hk ▸ hg
        refine jQ (cB (cN (dT h_30))) <| jU <| jk <| jB <| jF <| jA (jC (v := nv j) he_13) <| jA (jg (c := ((j + 1 : Nat) : Int)) rfl rfl (wr (by omega))) <| jA (jG (v := iv ((j + 1 : Nat) : Int)) rfl) <| jE <| jr [0] (A := [Res.row (.slice xa o_.length xc) 80 2 o_.length (o_.flatMap encC)]) rfl ?_
        refine jt (s.length - (j + 1)) (by omega) ⟨j + 1, xa, xc, o_, done, by omega, (by (try simp only [List.length_append, List.length_cons, List.length_nil]); omega), (by rw [putL_step hlt] at hR; simp only [hd, hg, hg2, hk, Bool.not_true, Bool.not_false, Bool.true_and, Bool.false_and, Bool.or_true, Bool.true_or, Bool.or_false, Bool.false_or, if_true, if_false, Bool.false_eq_true, List.nil_append, List.append_nil, List.append_assoc] at hR ⊢; exact hR), he_7, he_8, he_9, he_10, he_11, he_12, rfl, rfl, rfl⟩
      have hk := h_30
      refine jR (cB (cN (dF h_30))) <| jF <| jA (jC (v := .slice xa o_.length xc) he_11) <| jA (jC (v := .slice a s.length c) he_7) <| jA (jC (v := nv j) he_13) <| jA (kH (i := j) kc ke hr_21 hr_21b rfl rfl (by omega)) <| jT (LO.loadSK (vs := [str ((s.getD j c0).1), str ((s.getD j c0).2)]) hs_a nM rfl kz ke (atC (by omega)) rfl (by decide)) ?_
      refine jH rfl (kI (ps := [(0, .agg #[str ((s.getD j c0).1), str ((s.getD j c0).2)])]) (cur := #[str ((s.getD j c0).1), str ((s.getD j c0).2)]) kc ke kt rfl (by kernel_rfl) (by decide) (by decide)) ?_
      rintro _ _ ⟨a_31, rfl, rfl⟩
      refine jH rfl (kF 1 (q := 1) (news := ([((s.getD j c0).1, (s.getD j c0).2)] : List Cell).flatMap encC) (n' := (o_ ++ ([((s.getD j c0).1, (s.getD j c0).2)] : List Cell)).length) (cs' := (o_ ++ ([((s.getD j c0).1, (s.getD j c0).2)] : List Cell)).flatMap encC) rfl kc kc ky rfl (by' := 32) rfl rfl rfl rfl rfl (fun w hw => Src.sees (hw.see (i := 0) rfl) (oneC _)) (by (try simp only [LE]); omega) (by (try simp only [LE]); omega) (by simp only [List.length_append, List.length_take, List.length_drop, List.length_cons, List.length_nil] <;> first | rfl | omega) (by simp only [List.flatMap_append])) ?_
      rintro _ _ ⟨a_32, c_33, rfl, rfl⟩
      refine jA (jG (v := .slice a_32 ((o_ ++ ([((s.getD j c0).1, (s.getD j c0).2)] : List Cell)).length) c_33) rfl) <| jE <| jk <| jB <| jF <| jA (jC (v := nv j) he_13) <| jA (jg (c := ((j + 1 : Nat) : Int)) rfl rfl (wr (by omega))) <| jA (jG (v := iv ((j + 1 : Nat) : Int)) rfl) <| jE <| jr [1] (A := [Res.row (.slice a_32 ((o_ ++ ([((s.getD j c0).1, (s.getD j c0).2)] : List Cell)).length) c_33) 80 2 ((o_ ++ ([((s.getD j c0).1, (s.getD j c0).2)] : List Cell)).length) ((o_ ++ ([((s.getD j c0).1, (s.getD j c0).2)] : List Cell)).flatMap encC)]) rfl ?_
      refine jt (s.length - (j + 1)) (by omega) ⟨j + 1, a_32, c_33, (o_ ++ ([((s.getD j c0).1, (s.getD j c0).2)] : List Cell)), done, by omega, (by (try simp only [List.length_append, List.length_cons, List.length_nil]); omega), (by rw [putL_step hlt] at hR; simp only [hd, hg, hk, Bool.not_true, Bool.not_false, Bool.true_and, Bool.false_and, Bool.or_true, Bool.true_or, Bool.or_false, Bool.false_or, if_true, if_false, Bool.false_eq_true, List.nil_append, List.append_nil, List.append_assoc] at hR ⊢; exact hR), he_7, he_8, he_9, he_10, rfl, he_12, rfl, rfl, rfl⟩
    refine jQ (cB (dF h_14)) <| kB <| jn <| jn <| kC <| jB <| jD <| jD <| jF <| jA (jC (v := .bool done) he_12) ?_
    refine jA (kA rfl) <| jE <| jB ?_
    rcases Bool.eq_false_or_eq_true (done) with h_34 | h_34
    · have hd := h_34
      refine jQ (cB (cN h_34)) <| jU <| jB <| jD <| jF <| jA (jC (v := .slice xa o_.length xc) he_11) <| jA (jG (v := .slice xa o_.length xc) rfl) <| jE <| jB <| jM ?_
      refine jV (.inl rfl) rfl (jN (v := .slice xa o_.length xc) rfl) (List.Sublist.refl _) ?_
      rw [List.drop_of_length_le (by omega), putL] at hR
      simp only [hd, Bool.not_true, Bool.not_false, Bool.true_and, Bool.false_and, Bool.or_true, Bool.true_or, Bool.or_false, Bool.false_or, if_true, if_false, Bool.false_eq_true, List.nil_append, List.append_nil, List.append_assoc] at hR
      exact ⟨_, _, by rw [← hR] <;> rfl, by rw [← hR] <;> rfl⟩
    have hd := h_34
    refine jR (cB (cN h_34)) <| jF <| jA (jC (v := .slice xa o_.length xc) he_11) <| jA (jC (v := str key) he_8) <| jA (jC (v := str val) he_9) <| jA (kP (ps := [(0, str key), (1, str val)]) (cs := [str key, str val]) rfl (by kernel_rfl)) ?_
    refine jH rfl (kI (ps := [(0, .agg #[str key, str val])]) (cur := #[str key, str val]) kc ke kt rfl (by kernel_rfl) (by decide) (by decide)) ?_
    rintro _ _ ⟨a_35, rfl, rfl⟩
    refine jH rfl (kF 1 (q := 1) (news := ([(key, val)] : List Cell).flatMap encC) (n' := (o_ ++ ([(key, val)] : List Cell)).length) (cs' := (o_ ++ ([(key, val)] : List Cell)).flatMap encC) rfl kc kc ky rfl (by' := 32) rfl rfl rfl rfl rfl (fun w hw => Src.sees (hw.see (i := 0) rfl) (oneC _)) (by (try simp only [LE]); omega) (by (try simp only [LE]); omega) (by simp only [List.length_append, List.length_take, List.length_drop, List.length_cons, List.length_nil] <;> first | rfl | omega) (by simp only [List.flatMap_append])) ?_
    rintro _ _ ⟨a_36, c_37, rfl, rfl⟩
    refine jA (jG (v := .slice a_36 ((o_ ++ ([(key, val)] : List Cell)).length) c_37) rfl) <| jE <| jB <| jD <| jF <| jA (jC (v := .slice a_36 ((o_ ++ ([(key, val)] : List Cell)).length) c_37) rfl) <| jA (jG (v := .slice a_36 ((o_ ++ ([(key, val)] : List Cell)).length) c_37) rfl) <| jE <| jB <| jM ?_
    refine kL (pick_perm [1] (A := [Res.row (.slice a_36 ((o_ ++ ([(key, val)] : List Cell)).length) c_37) 80 2 ((o_ ++ ([(key, val)] : List Cell)).length) ((o_ ++ ([(key, val)] : List Cell)).flatMap encC)]) (F := [Res.row (.slice a_35 1 1) 80 2 1 (([(key, val)] : List Cell).flatMap encC)]) rfl).symm <| jV (.inl rfl) rfl (jN (v := .slice a_36 ((o_ ++ ([(key, val)] : List Cell)).length) c_37) rfl) (tS 1 _) ?_
    rw [List.drop_of_length_le (by omega), putL] at hR
    simp only [hd, Bool.not_true, Bool.not_false, Bool.true_and, Bool.false_and, Bool.or_true, Bool.true_or, Bool.or_false, Bool.false_or, if_true, if_false, Bool.false_eq_true, List.nil_append, List.append_nil, List.append_assoc] at hR
    exact ⟨_, _, by rw [← hR] <;> rfl, by rw [← hR] <;> rfl⟩
  refine jY (b := true) rfl rfl rfl (cB (cN h_2)) <| jY (b := true) rfl rfl rfl (cB (cN h_2)) <| jY (b := true) rfl rfl rfl (cB (cN h_2)) <| jA (jx (v := .bool true) (cB (cN h_2)) rfl) <| jE <| jB <| jR (cB rfl) <| jD <| jF <| jA (jC (v := .slice a_1 0 0) rfl) ?_
  refine jA (jC (v := .slice a s.length c) rfl) ?_
  refine jH rfl (kF 0 (q := s.length) (news := s.flatMap encC) (n' := s.length) (cs' := s.flatMap encC) rfl kc kc ky rfl (by' := 32) rfl rfl rfl rfl rfl (fun w hw => Src.sees (hw.seeOut_ hs_a nM) (oneC _)) (by (try simp only [LE]); omega) (by (try simp only [LE]); omega) (by (try simp only [List.length_take, List.length_drop]); first | rfl | omega) rfl) ?_
  rintro _ _ ⟨a_38, c_39, rfl, rfl⟩
  refine jA (jG (v := .slice a_38 s.length c_39) rfl) <| jE <| jB <| jM <| jX <| jV (.inl rfl) rfl (jN (v := .slice a_38 s.length c_39) rfl) (List.Sublist.refl _) ?_
  have he := (putKey_bad1 h_2 : putKey s key val = _)
  exact ⟨_, _, by rw [he] <;> rfl, by rw [he] <;> rfl⟩

theorem C_l02Put (a : Option Addr) (c : Nat) (l : List Str) (x : Str) (hn : l.length ≤ 100000000000) :
    Ct Tryz.prog 155 [.slice a l.length c, str x] [] (fun w_ => Sees w_ (.slice a l.length c) 1 l.length (l.map str)) (fun v A' => (v = .slice a l.length c ∧ addSpan l x = l ∧ A' = []) ∨ ∃ a' c', v = .slice a' (addSpan l x).length c' ∧ A' = [.row (.slice a' (addSpan l x).length c') 9 1 (addSpan l x).length ((addSpan l x).map str)]) := by
  refine Ct.intro Tryz.func155 rfl Tryz.ntmps155 (lb rfl) fun w0 hpre => ?_
  have hs_a : Sees w0 _ _ _ _ := hpre
  refine jD <| jF <| jA (jG (v := .slice none 0 0) rfl) <| jE <| jB <| jD <| jF <| jA (jG (v := iv 0) rfl) <| jE <| jB ?_
  refine jD <| jm <| kE (fun k_ e_ L_ => ∃ j : Nat, (j ≤ l.length) ∧ (∀ i, i < j → geqB (l.getD i []) x = false) ∧ e_ 0 = .slice a l.length c ∧ e_ 1 = str x ∧ e_ 4 = .slice none 0 0 ∧ e_ 5 = nv j ∧ L_ = [] ∧ k_ = l.length - j) _ ⟨0, by omega, (fun i hi => absurd hi (Nat.not_lt_zero i)), rfl, rfl, rfl, rfl, rfl, rfl⟩ ?_
  rintro _ e_1 _ ⟨j, hj, hN, he_2, he_3, he_4, he_5, rfl, rfl⟩
  refine jD <| jD <| jF <| jA (jC (v := nv j) he_5) <| jA (jC (v := .slice a l.length c) he_2) <| jA (kK kW rfl) <| jA (js rfl rfl) <| jA (jC (v := .bool (decide (((j : Nat) : Int) < ((l.length : Nat) : Int)))) rfl) ?_
  by_cases h_6 : ((j : Nat) : Int) < ((l.length : Nat) : Int)
  · have hlt : j < l.length := by omega
    refine jb rfl rfl rfl (cB (dT h_6)) (ja (jd (jC (v := .slice a l.length c) he_2))) ?_
    rintro _ _ ⟨rfl, rfl⟩
    refine jb rfl rfl rfl (cB (dT h_6)) (ja (jd (jC (v := nv j) he_5))) ?_
    rintro _ _ ⟨rfl, rfl⟩
    obtain ⟨hr_7, hr_7b, -⟩ := sees_some hs_a (by omega)
    refine jb rfl rfl rfl (cB (dT h_6)) (ja (jd (kH (i := j) kW ka hr_7 hr_7b rfl rfl (by omega)))) ?_
    rintro _ _ ⟨rfl, rfl⟩
    refine jb rfl rfl rfl (cB (dT h_6)) (ja (LO.loadS1 (v := str (l.getD j [])) hs_a nM rfl kZ (atS (by omega)))) ?_
    rintro _ _ ⟨rfl, rfl⟩
    refine jb rfl rfl rfl (cB (dT h_6)) (ja (jd (jC (v := str x) he_3))) ?_
    rintro _ _ ⟨rfl, rfl⟩
    refine jb rfl rfl rfl (cB (dT h_6)) (ja (jd (PO.lssS rfl rfl))) ?_
    rintro _ _ ⟨rfl, rfl⟩
    refine jA (jx (v := .bool (Op.bytesLess (l.getD j []) x)) (cB (dT h_6)) rfl) <| jE <| jB ?_
    rcases Bool.eq_false_or_eq_true (Op.bytesLess (l.getD j []) x) with h_8 | h_8
    · have hls := h_8
      refine jR (cB h_8) <| jU <| jB <| jm <| jF <| jA (jC (v := nv j) he_5) <| jA (jg (c := ((j + 1 : Nat) : Int)) rfl rfl (wr (by omega))) <| jA (jG (v := iv ((j + 1 : Nat) : Int)) rfl) <| jE <| jk ?_
      refine jt (l.length - (j + 1)) (by omega) ⟨j + 1, by omega, (fun i hi => if h : i = j then h ▸ (by rw [geqB, hls]; rfl) else hN i (by omega)), he_2, he_3, he_4, rfl, rfl, rfl⟩
    have hls := h_8
    have hge : geqB (l.getD j []) x = true := by rw [geqB, hls]; rfl
    refine jQ (cB h_8) <| kB <| jn <| jn <| kC <| jB <| jD <| jD <| jF <| jA (jC (v := nv j) he_5) ?_
    refine jA (jC (v := .slice a l.length c) he_2) <| jA (kK kW rfl) <| jA (js rfl rfl) <| jA (jC (v := .bool (decide (((j : Nat) : Int) < ((l.length : Nat) : Int)))) rfl) <| jb rfl rfl rfl (cB (dT h_6)) (ja (jd (jC (v := .slice a l.length c) he_2))) ?_
    rintro _ _ ⟨rfl, rfl⟩
    refine jb rfl rfl rfl (cB (dT h_6)) (ja (jd (jC (v := nv j) he_5))) ?_
    rintro _ _ ⟨rfl, rfl⟩
    refine jb rfl rfl rfl (cB (dT h_6)) (ja (jd (kH (i := j) kW ka hr_7 hr_7b rfl rfl (by omega)))) ?_
    rintro _ _ ⟨rfl, rfl⟩
    refine jb rfl rfl rfl (cB (dT h_6)) (ja (LO.loadS1 (v := str (l.getD j [])) hs_a nM rfl kZ (atS (by omega)))) ?_
    rintro _ _ ⟨rfl, rfl⟩
    refine jb rfl rfl rfl (cB (dT h_6)) (ja (jd (jC (v := str x) he_3))) ?_
    rintro _ _ ⟨rfl, rfl⟩
    refine jb rfl rfl rfl (cB (dT h_6)) (ja (jd (PO.eqlS rfl rfl))) ?_
    rintro _ _ ⟨rfl, rfl⟩
    refine jA (jx (v := .bool (decide ((l.getD j []) = x))) (cB (dT h_6)) rfl) <| jE <| jB ?_
    by_cases h_9 : (l.getD j []) = x
    · have hex := h_9
      refine jR (cB (dT h_9)) <| jD <| jF <| jA (jC (v := .slice a l.length c) he_2) <| jA (jG (v := .slice a l.length c) rfl) <| jE <| jB <| jM <| jX <| jV (.inl rfl) rfl (jN (v := .slice a l.length c) rfl) (List.nil_sublist _) ?_
      exact .inl ⟨rfl, addSpan_put_same hlt hN hge hex, rfl⟩
    have hex := h_9
    refine jQ (cB (dF h_9)) <| jU <| jB <| jD <| jF ?_
    refine jH rfl (kI (ps := []) (cur := #[]) kW ka km rfl (by kernel_rfl) (by decide) (by decide)) ?_
    rintro _ _ ⟨a_10, rfl, rfl⟩
    refine jA (jC (v := .slice a l.length c) he_2) <| jA (jC (v := nv j) he_5) ?_
    obtain ⟨hf_11m, hf_11x, hf_11s, hf_11l⟩ := sees_fits hs_a
    refine jA (PO.sliceVh (j := j) kW ka hf_11s rfl rfl (by omega)) ?_
    refine jH rfl (kF 0 (q := j) (news := (l.take j).map str) (n' := (l.take j).length) (cs' := (l.take j).map str) rfl kW kW kj rfl (by' := 16) rfl rfl rfl rfl rfl (fun w hw => Src.sees (hiS (hw.seeOut_ hs_a nM) j (by omega)) (oneS _)) (by (try simp only [LE]); omega) (by (try simp only [LE]); omega) (by (try simp only [List.length_take, List.length_drop]); first | rfl | omega) rfl) ?_
    rintro _ _ ⟨a_12, c_13, rfl, rfl⟩
    refine jA (jC (v := str x) he_3) ?_
    refine jH rfl (kI (ps := [(0, str x)]) (cur := #[str x]) kW ka km rfl (by kernel_rfl) (by decide) (by decide)) ?_
    rintro _ _ ⟨a_14, rfl, rfl⟩
    refine jH rfl (kF 1 (q := 1) (news := ([x] : List Str).map str) (n' := (l.take j ++ ([x] : List Str)).length) (cs' := (l.take j ++ ([x] : List Str)).map str) rfl kW kW kj rfl (by' := 16) rfl rfl rfl rfl rfl (fun w hw => Src.sees (hw.see (i := 0) rfl) (oneS _)) (by (try simp only [LE]); omega) (by (try simp only [LE]); omega) (by simp only [List.length_append, List.length_take, List.length_drop, List.length_cons, List.length_nil] <;> first | rfl | omega) (by simp only [List.map_append])) ?_
    rintro _ _ ⟨a_15, c_16, rfl, rfl⟩
    refine jA (jG (v := .slice a_15 ((l.take j ++ ([x] : List Str)).length) c_16) rfl) <| jE <| jB <| jD <| jF <| jA (jC (v := .slice a_15 ((l.take j ++ ([x] : List Str)).length) c_16) rfl) <| jA (jC (v := .slice a l.length c) he_2) <| jA (jC (v := nv j) he_5) <| jA (PO.sliceVl (i := j) kW ka hf_11s rfl rfl (by omega)) ?_
    refine jH rfl (kF 1 (q := (l.length - j)) (news := ((l.drop j).take (l.length - j)).map str) (n' := ((l.take j ++ ([x] : List Str)) ++ (l.drop j).take (l.length - j)).length) (cs' := ((l.take j ++ ([x] : List Str)) ++ (l.drop j).take (l.length - j)).map str) rfl kW kW kj rfl (by' := 16) rfl rfl rfl rfl rfl (fun w hw => Src.sees (subS (hw.seeOut_ hs_a nM) j l.length (by omega) (by omega)) (oneS _)) (by (try simp only [LE]); omega) (by (try simp only [LE]); omega) (by simp only [List.length_append, List.length_take, List.length_drop, List.length_cons, List.length_nil] <;> first | rfl | omega) (by simp only [List.map_append])) ?_
    rintro _ _ ⟨a_17, c_18, rfl, rfl⟩
    refine jA (jG (v := .slice a_17 (((l.take j ++ ([x] : List Str)) ++ (l.drop j).take (l.length - j)).length) c_18) rfl) <| jE <| jB <| jM <| kL (pick_perm [1] (A := [Res.row (.slice a_17 (((l.take j ++ ([x] : List Str)) ++ (l.drop j).take (l.length - j)).length) c_18) 9 1 (((l.take j ++ ([x] : List Str)) ++ (l.drop j).take (l.length - j)).length) (((l.take j ++ ([x] : List Str)) ++ (l.drop j).take (l.length - j)).map str)]) (F := [Res.row (.slice a_14 1 1) 9 1 1 (([x] : List Str).map str)]) rfl).symm <| jV (.inl rfl) rfl (jN (v := .slice a_17 (((l.take j ++ ([x] : List Str)) ++ (l.drop j).take (l.length - j)).length) c_18) rfl) (tS 1 _) ?_
    have he := addSpan_put_ins hlt hN hge hex
    exact .inr ⟨_, _, by rw [← he] <;> rfl, by rw [← he] <;> rfl⟩
  refine jY (b := false) rfl rfl rfl (cB (dF h_6)) <| jY (b := false) rfl rfl rfl (cB (dF h_6)) <| jY (b := false) rfl rfl rfl (cB (dF h_6)) <| jY (b := false) rfl rfl rfl (cB (dF h_6)) <| jY (b := false) rfl rfl rfl (cB (dF h_6)) <| jY (b := false) rfl rfl rfl (cB (dF h_6)) <| jA (jw (v := .bool false) (cB (dF h_6)) rfl) <| jE <| jB <| jQ (cB rfl) ?_
  refine kB <| jn <| jn <| kC <| jB <| jD <| jD <| jF <| jA (jC (v := nv j) he_5) <| jA (jC (v := .slice a l.length c) he_2) ?_
  refine jA (kK kW rfl) <| jA (js rfl rfl) <| jA (jC (v := .bool (decide (((j : Nat) : Int) < ((l.length : Nat) : Int)))) rfl) <| jY (b := false) rfl rfl rfl (cB (dF h_6)) <| jY (b := false) rfl rfl rfl (cB (dF h_6)) <| jY (b := false) rfl rfl rfl (cB (dF h_6)) <| jY (b := false) rfl rfl rfl (cB (dF h_6)) <| jY (b := false) rfl rfl rfl (cB (dF h_6)) <| jY (b := false) rfl rfl rfl (cB (dF h_6)) <| jA (jw (v := .bool false) (cB (dF h_6)) rfl) ?_
  refine jE <| jB <| jQ (cB rfl) <| jU <| jB <| jD <| jF ?_
  refine jH rfl (kI (ps := []) (cur := #[]) kW ka km rfl (by kernel_rfl) (by decide) (by decide)) ?_
  rintro _ _ ⟨a_19, rfl, rfl⟩
  refine jA (jC (v := .slice a l.length c) he_2) <| jA (jC (v := nv j) he_5) ?_
  obtain ⟨hf_20m, hf_20x, hf_20s, hf_20l⟩ := sees_fits hs_a
  refine jA (PO.sliceVh (j := j) kW ka hf_20s rfl rfl (by omega)) ?_
  refine jH rfl (kF 0 (q := j) (news := (l.take j).map str) (n' := (l.take j).length) (cs' := (l.take j).map str) rfl kW kW kj rfl (by' := 16) rfl rfl rfl rfl rfl (fun w hw => Src.sees (hiS (hw.seeOut_ hs_a nM) j (by omega)) (oneS _)) (by (try simp only [LE]); omega) (by (try simp only [LE]); omega) (by (try simp only [List.length_take, List.length_drop]); first | rfl | omega) rfl) ?_
  rintro _ _ ⟨a_21, c_22, rfl, rfl⟩
  refine jA (jC (v := str x) he_3) ?_
  refine jH rfl (kI (ps := [(0, str x)]) (cur := #[str x]) kW ka km rfl (by kernel_rfl) (by decide) (by decide)) ?_
  rintro _ _ ⟨a_23, rfl, rfl⟩
  refine jH rfl (kF 1 (q := 1) (news := ([x] : List Str).map str) (n' := (l.take j ++ ([x] : List Str)).length) (cs' := (l.take j ++ ([x] : List Str)).map str) rfl kW kW kj rfl (by' := 16) rfl rfl rfl rfl rfl (fun w hw => Src.sees (hw.see (i := 0) rfl) (oneS _)) (by (try simp only [LE]); omega) (by (try simp only [LE]); omega) (by simp only [List.length_append, List.length_take, List.length_drop, List.length_cons, List.length_nil] <;> first | rfl | omega) (by simp only [List.map_append])) ?_
  rintro _ _ ⟨a_24, c_25, rfl, rfl⟩
  refine jA (jG (v := .slice a_24 ((l.take j ++ ([x] : List Str)).length) c_25) rfl) <| jE <| jB <| jD <| jF <| jA (jC (v := .slice a_24 ((l.take j ++ ([x] : List Str)).length) c_25) rfl) <| jA (jC (v := .slice a l.length c) he_2) <| jA (jC (v := nv j) he_5) <| jA (PO.sliceVl (i := j) kW ka hf_20s rfl rfl (by omega)) ?_
  refine jH rfl (kF 1 (q := (l.length - j)) (news := ((l.drop j).take (l.length - j)).map str) (n' := ((l.take j ++ ([x] : List Str)) ++ (l.drop j).take (l.length - j)).length) (cs' := ((l.take j ++ ([x] : List Str)) ++ (l.drop j).take (l.length - j)).map str) rfl kW kW kj rfl (by' := 16) rfl rfl rfl rfl rfl (fun w hw => Src.sees (subS (hw.seeOut_ hs_a nM) j l.length (by omega) (by omega)) (oneS _)) (by (try simp only [LE]); omega) (by (try simp only [LE]); omega) (by simp only [List.length_append, List.length_take, List.length_drop, List.length_cons, List.length_nil] <;> first | rfl | omega) (by simp only [List.map_append])) ?_
  rintro _ _ ⟨a_26, c_27, rfl, rfl⟩
  refine jA (jG (v := .slice a_26 (((l.take j ++ ([x] : List Str)) ++ (l.drop j).take (l.length - j)).length) c_27) rfl) <| jE <| jB <| jM <| kL (pick_perm [1] (A := [Res.row (.slice a_26 (((l.take j ++ ([x] : List Str)) ++ (l.drop j).take (l.length - j)).length) c_27) 9 1 (((l.take j ++ ([x] : List Str)) ++ (l.drop j).take (l.length - j)).length) (((l.take j ++ ([x] : List Str)) ++ (l.drop j).take (l.length - j)).map str)]) (F := [Res.row (.slice a_23 1 1) 9 1 1 (([x] : List Str).map str)]) rfl).symm <| jV (.inl rfl) rfl (jN (v := .slice a_26 (((l.take j ++ ([x] : List Str)) ++ (l.drop j).take (l.length - j)).length) c_27) rfl) (tS 1 _) ?_
  have he := addSpan_put_end (by omega) hj hN
  exact .inr ⟨_, _, by rw [← he] <;> rfl, by rw [← he] <;> rfl⟩

theorem C_sAddSpan (a : Option Addr) (c : Nat) (l : List Str) (x : Str) (hn : l.length ≤ 10000000000) :
    Ct Tryz.prog 116 [.slice a l.length c, str x] [] (fun w_ => Sees w_ (.slice a l.length c) 1 l.length (l.map str)) (fun v A' => ∃ a' c', v = .slice a' (addSpan l x).length c' ∧ A' = [.row (.slice a' (addSpan l x).length c') 9 1 (addSpan l x).length ((addSpan l x).map str)]) := by
  refine Ct.intro Tryz.func116 rfl Tryz.ntmps116 (lb rfl) fun w0 hpre => ?_
  have hs_a : Sees w0 _ _ _ _ := hpre
  refine jD <| jF <| jA (jG (v := .slice none 0 0) rfl) <| jE <| jB <| jD <| jF ?_
  refine jH rfl (kI (ps := []) (cur := #[]) kW ka km rfl (by kernel_rfl) (by decide) (by decide)) ?_
  rintro _ _ ⟨a_1, rfl, rfl⟩
  refine jA (jC (v := .slice a l.length c) rfl) <| jA (jC (v := str x) rfl) ?_
  refine jH rfl (jI [] Tryz.call155 rfl (C_l02Put a c l x (by omega)) rfl (fun w hw => hw.seeOut_ hs_a nM)) ?_
  rintro _ _ ⟨_, ⟨rfl, hsame, rfl⟩ | ⟨a_2, c_3, rfl, rfl⟩, rfl⟩
  · have hal3 := addSpan_len l x
    refine jH rfl (kF 0 (q := l.length) (news := l.map str) (n' := l.length) (cs' := l.map str) rfl kW kW kj rfl (by' := 16) rfl rfl rfl rfl rfl (fun w hw => Src.sees (hw.seeOut_ hs_a nM) (oneS _)) (by (try simp only [LE]); omega) (by (try simp only [LE]); omega) (by (try simp only [List.length_take, List.length_drop]); first | rfl | omega) rfl) ?_
    rintro _ _ ⟨a_4, c_5, rfl, rfl⟩
    refine jA (jG (v := .slice a_4 l.length c_5) rfl) <| jE <| jB <| jM <| jV (.inl rfl) rfl (jN (v := .slice a_4 l.length c_5) rfl) (List.Sublist.refl _) ?_
    exact ⟨_, _, by rw [hsame] <;> rfl, by rw [hsame] <;> rfl⟩
  have hal3 := addSpan_len l x
  refine jH rfl (kF 1 (q := ((addSpan l x).length)) (news := (addSpan l x).map str) (n' := (addSpan l x).length) (cs' := (addSpan l x).map str) rfl kW kW kj rfl (by' := 16) rfl rfl rfl rfl rfl (fun w hw => Src.sees (hw.see (i := 0) rfl) (oneS _)) (by (try simp only [LE]); omega) (by (try simp only [LE]); omega) (by (try simp only [List.length_take, List.length_drop]); first | rfl | omega) rfl) ?_
  rintro _ _ ⟨a_6, c_7, rfl, rfl⟩
  refine jA (jG (v := .slice a_6 ((addSpan l x).length) c_7) rfl) <| jE <| jB <| jM <| kL (pick_perm [1] (A := [Res.row (.slice a_6 ((addSpan l x).length) c_7) 9 1 ((addSpan l x).length) ((addSpan l x).map str)]) (F := [Res.row (.slice a_2 ((addSpan l x).length) c_3) 9 1 ((addSpan l x).length) ((addSpan l x).map str)]) rfl).symm <| jV (.inl rfl) rfl (jN (v := .slice a_6 ((addSpan l x).length) c_7) rfl) (tS 1 _) ?_
  exact ⟨_, _, rfl, rfl⟩

theorem C_figure (d : Nat) (hd : d < 10) :
    Ct Tryz.prog 150 [.int .i64 ((d : Nat) : Int)] [] (fun _ => True) (fun v A' => v = .int .u8 ((48 + d : Nat) : Int) ∧ A' = []) := by
  refine Ct.intro Tryz.func150 rfl Tryz.ntmps150 (lb rfl) fun w0 hpre => ?_
  refine jD <| jF <| jA (jG (v := .int .u8 0) rfl) <| jE <| jB <| jD <| jD <| jF <| jA (jC (v := nv d) rfl) <| jA (js rfl rfl) ?_
  refine jE <| jB ?_
  by_cases h_1 : ((d : Nat) : Int) < 10
  · refine jR (cB (dT h_1)) <| jD <| jF <| jA (jC (v := nv d) rfl) <| jA (jg (c := ((48 + d : Nat) : Int)) rfl rfl (wr (by omega))) <| jA (PO.convI (c := ((48 + d : Nat) : Int)) kr kk rfl (wr8 (by omega))) <| jA (jG (v := .int .u8 ((48 + d : Nat) : Int)) rfl) <| jE <| jB <| jM ?_
    refine jX <| jV (.inl rfl) rfl (jN (v := .int .u8 ((48 + d : Nat) : Int)) rfl) (List.nil_sublist _) ?_
    exact ⟨rfl, rfl⟩
  exfalso; omega

theorem C_sDecN (k : Nat) (h1 : k ≤ 1000000000000000000) :
    Ct Tryz.prog 115 [.int .i64 ((k : Nat) : Int)] [] (fun _ => True) (fun v A' => v = str (dec ((k : Nat) : Int)) ∧ A' = []) := by
  refine Ct.intro Tryz.func115 rfl Tryz.ntmps115 (lb rfl) fun w0 hpre => ?_
  refine jD <| jF <| jA (jG (v := str []) rfl) <| jE <| jB <| jD <| jD <| jF <| jA (jC (v := nv k) rfl) <| jA (ju rfl rfl) ?_
  refine jE <| jB ?_
  by_cases h_1 : ((k : Nat) : Int) = 0
  · refine jR (cB (dT h_1)) <| jD <| jF <| jA (jG (v := str [48]) rfl) <| jE <| jB <| jM <| jX <| jV (.inl rfl) rfl (jN (v := str [48]) rfl) (List.nil_sublist _) ?_
    refine ⟨?_, rfl⟩
    rw [show ((k : Nat) : Int) = 0 by omega, dec_zero]
  refine jQ (cB (dF h_1)) <| jU <| jB <| jD <| jF <| jA (jC (v := nv k) rfl) <| jA (js rfl rfl) <| jA (jG (v := .bool (decide (((k : Nat) : Int) < 0))) rfl) <| jE <| jB ?_
  refine jD <| jF <| jA (jG (v := str []) rfl) <| jE <| jB <| jD <| jm <| kE (fun k_ e_ L_ => ∃ k1 : Nat, ∃ o_ : Str, (k1 ≤ k) ∧ (o_.length + k1 ≤ k) ∧ (mtAcc k1 o_ = mtAcc k []) ∧ e_ 0 = nv k1 ∧ e_ 2 = str [] ∧ e_ 3 = .bool (decide (((k : Nat) : Int) < 0)) ∧ e_ 4 = str o_ ∧ L_ = [] ∧ k_ = k1 + 1) _ ⟨k, [], by omega, (by simp), rfl, rfl, rfl, rfl, rfl, rfl, rfl⟩ ?_
  rintro _ e_2 _ ⟨k1, o_, hk, hl, hR, he_3, he_4, he_5, he_6, rfl, rfl⟩
  refine jD <| jD <| jF <| jA (jC (v := nv k1) he_3) <| jA (kQ rfl rfl) <| jE <| jB ?_
  by_cases h_7 : ((k1 : Nat) : Int) = 0
  · refine jQ (cB (cN (dT h_7))) <| kB <| jn <| jn <| kC <| jB <| jD <| jD <| jF <| jA (jC (v := .bool (decide (((k : Nat) : Int) < 0))) he_5) ?_
    refine jE <| jB ?_
    by_cases h_8 : ((k : Nat) : Int) < 0
    · exfalso; omega
    refine jQ (cB (dF h_8)) <| jU <| jB <| jD <| jF <| jA (jC (v := str o_) he_6) <| jA (jG (v := str o_) rfl) <| jE <| jB <| jM ?_
    refine jV (.inl rfl) rfl (jN (v := str o_) rfl) (List.nil_sublist _) ?_
    refine ⟨?_, rfl⟩
    rw [dec_nat (by omega), ← hR, mtAcc_zero (by omega)]
  refine jR (cB (cN (dF h_7))) <| jU <| jB <| jm <| jD <| jF <| jA (jC (v := nv k1) he_3) <| jA (PO.remN (c := ((k1 % 10 : Nat) : Int)) rfl rfl (by omega) (by omega) (by omega)) <| jA (jG (v := iv ((k1 % 10 : Nat) : Int)) rfl) <| jE ?_
  refine jB <| jD <| jD <| jF <| jA (jC (v := iv ((k1 % 10 : Nat) : Int)) rfl) <| jA (js rfl rfl) <| jE <| jB ?_
  by_cases h_9 : ((k1 % 10 : Nat) : Int) < 0
  · exfalso; omega
  refine jQ (cB (dF h_9)) <| jU <| jB <| jD <| jF <| jA (jC (v := iv ((k1 % 10 : Nat) : Int)) rfl) ?_
  refine jH rfl (jI [] Tryz.call150 rfl (C_figure (k1 % 10) (by omega)) rfl (fun _ _ => trivial)) ?_
  rintro _ _ ⟨_, ⟨rfl, rfl⟩, rfl⟩
  refine jH rfl (kI (ps := [(0, .int .u8 ((48 + (k1 % 10) : Nat) : Int))]) (cur := #[.int .u8 ((48 + (k1 % 10) : Nat) : Int)]) ki kq kw rfl (by kernel_rfl) (by decide) (by decide)) ?_
  rintro _ _ ⟨a_10, rfl, rfl⟩
  refine jT (LO.toStr 0 [UInt8.ofNat (48 + (k1 % 10))] rfl ki kk kY rfl (by rw [List.map_cons, List.map_nil, encB_of _ (by omega)])) <| jA (jC (v := str o_) he_6) <| jA (kO rfl rfl (by (try simp only [List.length_append, List.length_cons, List.length_nil, List.length_drop, List.length_take]); omega)) <| jA (jG (v := str ([UInt8.ofNat (48 + (k1 % 10))] ++ o_)) rfl) <| jE <| jB <| jF <| jA (jC (v := nv k1) he_3) <| jA (PO.quoN (c := ((k1 / 10 : Nat) : Int)) rfl rfl (by omega) (by omega) (by omega) (wr (by omega))) <| jA (jG (v := iv ((k1 / 10 : Nat) : Int)) rfl) ?_
  refine jE <| jk <| jr [] (A := []) rfl ?_
  refine jt (k1 / 10 + 1) (by omega) ⟨(k1 / 10), [UInt8.ofNat (48 + (k1 % 10))] ++ o_, by omega, (by simp only [List.length_append, List.length_cons, List.length_nil]; omega), (by rw [mtAcc_step (by omega)]; exact hR), rfl, he_4, he_5, rfl, rfl, rfl⟩

theorem C_sDec (n : Int) (h0 : 0 ≤ n) (h1 : n ≤ 1000000000000000000) : Ct Tryz.prog 115 [.int .i64 n] [] (fun _ => True) (fun v A' => v = str (dec n) ∧ A' = []) := by
  have := C_sDecN n.toNat (by omega)
  rw [Int.toNat_of_nonneg h0] at this
  exact this

end Go.Proofs.YthdgcbdfcclgbaaGreatDoor

set_option linter.unusedSimpArgs false
set_option linter.unusedVariables false
set_option linter.unnecessarySimpa false
namespace Go.Proofs.YthdgcbdfcclgbaaGreatDoor
open Go Go.RowKit
attribute [local irreducible] JL JC JQ JO LO PO JA JX Ct

theorem C_sReadDec (t : Str) (ht : t.length ≤ 281474976710656) :
    Ct Tryz.prog 154 [str t] [] (fun _ => True) (fun v A' => v = .tuple #[.int .i64 (readDec t).1, .bool (readDec t).2] ∧ A' = []) := by
  refine Ct.intro Tryz.func154 rfl Tryz.ntmps154 (lb rfl) fun w0 hpre => ?_
  refine jD <| jF <| jA (jG (v := iv 0) rfl) <| jA (jG (v := .bool false) rfl) <| jE <| jB <| jD <| jD <| jF <| jA (jC (v := str t) rfl) ?_
  refine jA (kJ kY rfl) <| jA (kS rfl rfl) <| jE <| jB ?_
  by_cases h_1 : 10 < (t.length : Int)
  · refine jR (cB (dT h_1)) <| jD <| jF <| jA (jG (v := iv 0) rfl) <| jA (jG (v := .bool false) rfl) <| jE <| jB <| jM <| jX <| jj (.inl rfl) rfl (jN (v := iv 0) rfl) (jN (v := .bool false) rfl) (List.nil_sublist _) ?_
    refine ⟨?_, rfl⟩
    rw [readDec_long (by omega)]
  refine jQ (cB (dF h_1)) <| jU <| jB <| jD <| jF <| jA (jG (v := iv 0) rfl) <| jE <| jB <| jD <| jD ?_
  refine jF <| jA (jG (v := iv 0) rfl) <| jE <| jB <| jm <| kE (fun k_ e_ L_ => ∃ j : Nat, ∃ n1 : Int, (j ≤ t.length) ∧ (0 ≤ n1) ∧ (n1 < ((10 ^ j : Nat) : Int)) ∧ (figs n1 (t.drop j) = figs 0 t) ∧ e_ 0 = str t ∧ e_ 4 = iv n1 ∧ e_ 5 = nv j ∧ L_ = [] ∧ k_ = t.length - j) _ ⟨0, 0, by omega, by omega, (by decide), rfl, rfl, rfl, rfl, rfl, rfl⟩ ?_
  rintro _ e_2 _ ⟨j, n1, hj, h0, hb, hR, he_3, he_4, he_5, rfl, rfl⟩
  refine jD <| jD <| jF <| jA (jC (v := nv j) he_5) <| jA (jC (v := str t) he_3) <| jA (kJ kY rfl) <| jA (js rfl rfl) <| jE <| jB ?_
  by_cases h_6 : ((j : Nat) : Int) < (t.length : Int)
  · have hlt : j < t.length := by omega
    have hpj : 10 ^ j ≤ 1000000000 := Nat.le_trans (Nat.pow_le_pow_right (by omega) (show j ≤ 9 by omega)) (by decide)
    refine jR (cB (dT h_6)) <| jU <| jB <| jD <| jm <| jD <| jD <| jF <| jA (jC (v := str t) he_3) <| jA (jC (v := nv j) he_5) ?_
    refine jA (PO.indexS (i := j) (c := t.getD j 0) kY rfl rfl (getD_some (by omega))) ?_
    have hu_7 := UInt8.toNat_lt (t.getD j 0)
    refine jA (js rfl rfl) <| jA (jC (v := .bool (decide (((t.getD j 0).toNat : Int) < 48))) rfl) ?_
    by_cases h_8 : ((t.getD j 0).toNat : Int) < 48
    · refine jY (b := true) rfl rfl rfl (cB (dT h_8)) <| jY (b := true) rfl rfl rfl (cB (dT h_8)) <| jY (b := true) rfl rfl rfl (cB (dT h_8)) <| jY (b := true) rfl rfl rfl (cB (dT h_8)) <| jA (jx (v := .bool true) (cB (dT h_8)) rfl) <| jE <| jB <| jR (cB rfl) <| jD <| jF ?_
      refine jA (jG (v := iv 0) rfl) <| jA (jG (v := .bool false) rfl) <| jE <| jB <| jM <| jX <| jz <| jX <| jX <| jz ?_
      refine jX <| jj (.inl rfl) rfl (jN (v := iv 0) rfl) (jN (v := .bool false) rfl) (List.nil_sublist _) ?_
      refine ⟨?_, rfl⟩
      rw [figs_step hlt, if_neg (by omega)] at hR
      rw [readDec_figs (by omega), ← hR]
    refine jb rfl rfl rfl (cB (dF h_8)) (ja (jd (jC (v := str t) he_3))) ?_
    rintro _ _ ⟨rfl, rfl⟩
    refine jb rfl rfl rfl (cB (dF h_8)) (ja (jd (jC (v := nv j) he_5))) ?_
    rintro _ _ ⟨rfl, rfl⟩
    refine jb rfl rfl rfl (cB (dF h_8)) (ja (jd (PO.indexS (i := j) (c := t.getD j 0) kY rfl rfl (getD_some (by omega))))) ?_
    rintro _ _ ⟨rfl, rfl⟩
    have hu_9 := UInt8.toNat_lt (t.getD j 0)
    refine jb rfl rfl rfl (cB (dF h_8)) (ja (jd (kS rfl rfl))) ?_
    rintro _ _ ⟨rfl, rfl⟩
    refine jA (jw (v := .bool (decide (57 < ((t.getD j 0).toNat : Int)))) (cB (dF h_8)) rfl) <| jE <| jB ?_
    by_cases h_10 : 57 < ((t.getD j 0).toNat : Int)
    · refine jR (cB (dT h_10)) <| jD <| jF <| jA (jG (v := iv 0) rfl) <| jA (jG (v := .bool false) rfl) <| jE <| jB <| jM <| jX <| jz ?_
      refine jX <| jX <| jz <| jX <| jj (.inl rfl) rfl (jN (v := iv 0) rfl) (jN (v := .bool false) rfl) (List.nil_sublist _) ?_
      refine ⟨?_, rfl⟩
      rw [figs_step hlt, if_neg (by omega)] at hR
      rw [readDec_figs (by omega), ← hR]
    refine jQ (cB (dF h_10)) <| jU <| jB <| jF <| jA (jC (v := iv n1) he_4) <| jA (PO.mul (c := 10 * n1) rfl rfl (wr (by omega))) <| jA (jC (v := str t) he_3) <| jA (jC (v := nv j) he_5) <| jA (PO.indexS (i := j) (c := t.getD j 0) kY rfl rfl (getD_some (by omega))) ?_
    have hu_11 := UInt8.toNat_lt (t.getD j 0)
    refine jA (PO.convI (c := ((t.getD j 0).toNat : Int)) kk kr rfl (wr (by omega))) <| jA (jg (c := (10 * n1) + ((t.getD j 0).toNat : Int)) rfl rfl (wr (by omega))) <| jA (kR (c := ((10 * n1) + ((t.getD j 0).toNat : Int)) - 48) rfl rfl (wr (by omega))) <| jA (jG (v := iv (((10 * n1) + ((t.getD j 0).toNat : Int)) - 48)) rfl) <| jE <| jk <| jB <| jF <| jA (jC (v := nv j) he_5) <| jA (jg (c := ((j + 1 : Nat) : Int)) rfl rfl (wr (by omega))) ?_
    refine jA (jG (v := iv ((j + 1 : Nat) : Int)) rfl) <| jE ?_
    refine jt (t.length - (j + 1)) (by omega) ⟨j + 1, ((10 * n1) + ((t.getD j 0).toNat : Int)) - 48, by omega, by omega, (by rw [Nat.pow_succ]; omega), (by rw [figs_step hlt, if_pos (by omega)] at hR; exact hR), he_3, rfl, rfl, rfl, rfl⟩
  have hpj : 10 ^ j ≤ 10000000000 := Nat.le_trans (Nat.pow_le_pow_right (by omega) (show j ≤ 10 by omega)) (by decide)
  rw [List.drop_of_length_le (by omega), figs] at hR
  refine jQ (cB (dF h_6)) <| kB <| jn <| jn <| kC <| jB <| jD <| jD <| jF <| jA (jC (v := iv n1) he_4) ?_
  refine jA (kS rfl rfl) <| jA (jC (v := .bool (decide (1000000000 < n1))) rfl) ?_
  by_cases h_12 : 1000000000 < n1
  · refine jY (b := true) rfl rfl rfl (cB (dT h_12)) <| jY (b := true) rfl rfl rfl (cB (dT h_12)) <| jY (b := true) rfl rfl rfl (cB (dT h_12)) <| jY (b := true) rfl rfl rfl (cB (dT h_12)) <| jA (jx (v := .bool true) (cB (dT h_12)) rfl) <| jE <| jB <| jR (cB rfl) <| jD <| jF ?_
    refine jA (jG (v := iv 0) rfl) <| jA (jG (v := .bool false) rfl) <| jE <| jB <| jM <| jX <| jj (.inl rfl) rfl (jN (v := iv 0) rfl) (jN (v := .bool false) rfl) (List.nil_sublist _) ?_
    refine ⟨?_, rfl⟩
    rw [readDec_figs (by omega), ← hR]
    simp only
    rw [if_neg (fun h => by simp_all <;> omega)]
  refine jb rfl rfl rfl (cB (dF h_12)) (ja (jd (jC (v := iv n1) he_4))) ?_
  rintro _ _ ⟨rfl, rfl⟩
  refine jb rfl rfl rfl (cB (dF h_12)) (jI [] Tryz.call115 rfl (C_sDec n1 (by omega) (by omega)) rfl (fun _ _ => trivial)) ?_
  rintro _ _ ⟨_, ⟨rfl, rfl⟩, rfl⟩
  refine jb rfl rfl rfl (cB (dF h_12)) (ja (jd (jC (v := str t) he_3))) ?_
  rintro _ _ ⟨rfl, rfl⟩
  refine jb rfl rfl rfl (cB (dF h_12)) (ja (jd (PO.neqS rfl rfl))) ?_
  rintro _ _ ⟨rfl, rfl⟩
  refine jA (jw (v := .bool (!(decide ((dec n1) = t)))) (cB (dF h_12)) rfl) <| jE <| jB ?_
  by_cases h_13 : (dec n1) = t
  · refine jQ (cB (cN (dT h_13))) <| jU <| jB <| jD <| jF <| jA (jC (v := iv n1) he_4) <| jA (jG (v := iv n1) rfl) <| jA (jG (v := .bool true) rfl) <| jE <| jB ?_
    refine jM <| jj (.inl rfl) rfl (jN (v := iv n1) rfl) (jN (v := .bool true) rfl) (List.nil_sublist _) ?_
    refine ⟨?_, rfl⟩
    rw [readDec_figs (by omega), ← hR]
    simp only
    rw [if_pos (by refine ⟨?_, ?_⟩ <;> first | omega | simp_all)]
  refine jR (cB (cN (dF h_13))) <| jD <| jF <| jA (jG (v := iv 0) rfl) <| jA (jG (v := .bool false) rfl) <| jE <| jB <| jM <| jX <| jj (.inl rfl) rfl (jN (v := iv 0) rfl) (jN (v := .bool false) rfl) (List.nil_sublist _) ?_
  refine ⟨?_, rfl⟩
  rw [readDec_figs (by omega), ← hR]
  simp only
  rw [if_neg (fun h => by simp_all <;> omega)]

theorem C_sNumOf (t : Str) (ht : t.length ≤ 281474976710656) :
    Ct Tryz.prog 107 [str t] [] (fun _ => True) (fun v A' => v = .int .i64 (numOf t) ∧ A' = []) := by
  refine Ct.intro Tryz.func107 rfl Tryz.ntmps107 (lb rfl) fun w0 hpre => ?_
  refine jD <| jF <| jA (jG (v := iv 0) rfl) <| jE <| jB <| jD <| jF <| jA (jC (v := str t) rfl) ?_
  refine jH rfl (jI [] Tryz.call154 rfl (C_sReadDec t ht) rfl (fun _ _ => trivial)) ?_
  rintro _ _ ⟨_, ⟨rfl, rfl⟩, rfl⟩
  refine jA (jC (v := .tuple #[iv ((readDec t).1), .bool ((readDec t).2)]) rfl) <| jA (jS (v := iv ((readDec t).1)) rfl rfl) <| jA (jS (v := .bool ((readDec t).2)) rfl rfl) <| jA (jG (v := iv ((readDec t).1)) rfl) <| jA (jG (v := .bool ((readDec t).2)) rfl) <| jE <| jB <| jD <| jD <| jF ?_
  refine jA (jC (v := .bool ((readDec t).2)) rfl) <| jA (kA rfl) <| jA (jC (v := .bool (!((readDec t).2))) rfl) ?_
  rcases Bool.eq_false_or_eq_true ((readDec t).2) with h_1 | h_1
  · refine jb rfl rfl rfl (cB (cN h_1)) (ja (jd (jC (v := iv ((readDec t).1)) rfl))) ?_
    rintro _ _ ⟨rfl, rfl⟩
    refine jb rfl rfl rfl (cB (cN h_1)) (ja (jd (kS rfl rfl))) ?_
    rintro _ _ ⟨rfl, rfl⟩
    refine jA (jw (v := .bool (decide (999 < ((readDec t).1)))) (cB (cN h_1)) rfl) <| jE <| jB ?_
    by_cases h_2 : 999 < ((readDec t).1)
    · refine jR (cB (dT h_2)) <| jD <| jF <| jA (jG (v := iv 0) rfl) <| jE <| jB <| jM <| jX <| jV (.inl rfl) rfl (jN (v := iv 0) rfl) (List.nil_sublist _) ?_
      refine ⟨?_, rfl⟩
      unfold numOf
      first | rw [if_pos (by omega)] | (rw [if_neg (by omega)] <;> first | rfl | (congr 1; omega))
    refine jQ (cB (dF h_2)) <| jU <| jB <| jD <| jF <| jA (jC (v := iv ((readDec t).1)) rfl) <| jA (jG (v := iv ((readDec t).1)) rfl) <| jE <| jB <| jM ?_
    refine jV (.inl rfl) rfl (jN (v := iv ((readDec t).1)) rfl) (List.nil_sublist _) ?_
    refine ⟨?_, rfl⟩
    unfold numOf
    first | rw [if_pos (by omega)] | (rw [if_neg (by omega)] <;> first | rfl | (congr 1; omega))
  refine jY (b := true) rfl rfl rfl (cB (cN h_1)) <| jY (b := true) rfl rfl rfl (cB (cN h_1)) <| jA (jx (v := .bool true) (cB (cN h_1)) rfl) <| jE <| jB <| jR (cB rfl) <| jD <| jF <| jA (jG (v := iv 0) rfl) <| jE ?_
  refine jB <| jM <| jX <| jV (.inl rfl) rfl (jN (v := iv 0) rfl) (List.nil_sublist _) ?_
  refine ⟨?_, rfl⟩
  unfold numOf
  have hz := readDec_no h_1
  first | rw [if_pos (by omega)] | (rw [if_neg (by omega)] <;> first | rfl | (congr 1; omega))

theorem C_joinTouch (a1 a2 e1 e2 : Option Addr) (c1 c2 f1 f2 : Nat) (r w r' w' : List Str) (h1 : r.length ≤ 1000000000) (h2 : w.length ≤ 1000000000) (h3 : r'.length ≤ 1000000000) (h4 : w'.length ≤ 1000000000) :
    Ct Tryz.prog 49 [.agg #[.slice a1 r.length c1, .slice a2 w.length c2], .agg #[.slice e1 r'.length f1, .slice e2 w'.length f2]] [] (fun w_ => Sees w_ (.slice a1 r.length c1) 1 r.length (r.map str) ∧ Sees w_ (.slice a2 w.length c2) 1 w.length (w.map str) ∧ Sees w_ (.slice e1 r'.length f1) 1 r'.length (r'.map str) ∧ Sees w_ (.slice e2 w'.length f2) 1 w'.length (w'.map str)) (fun v A' => ∃ x1 y1 x2 y2, v = .agg #[.slice x1 (r'.foldl addSpan r).length y1, .slice x2 (w'.foldl addSpan w).length y2] ∧ A' = [.row (.slice x1 (r'.foldl addSpan r).length y1) 9 1 (r'.foldl addSpan r).length ((r'.foldl addSpan r).map str), .row (.slice x2 (w'.foldl addSpan w).length y2) 9 1 (w'.foldl addSpan w).length ((w'.foldl addSpan w).map str)]) := by
  refine Ct.intro Tryz.func49 rfl Tryz.ntmps49 (lb rfl) fun w0 hpre => ?_
  have hs_a1 : Sees w0 _ _ _ _ := hpre.1
  have hs_a2 : Sees w0 _ _ _ _ := hpre.2.1
  have hs_e1 : Sees w0 _ _ _ _ := hpre.2.2.1
  have hs_e2 : Sees w0 _ _ _ _ := hpre.2.2.2
  refine jD <| jF ?_
  refine jH rfl (jv (cs := [.slice a1 r.length c1, .slice a2 w.length c2]) rfl rfl) ?_
  rintro _ _ ⟨b_1, rfl, rfl⟩
  refine jH rfl (jv (cs := [.slice e1 r'.length f1, .slice e2 w'.length f2]) rfl rfl) ?_
  rintro _ _ ⟨b_2, rfl, rfl⟩
  refine jH rfl (jh (z := .agg #[.slice none 0 0, .slice none 0 0]) (cs := [.slice none 0 0, .slice none 0 0]) ks rfl) ?_
  rintro _ _ ⟨b_3, rfl, rfl⟩
  refine jE <| jB <| jD ?_
  refine JC.cut (fun e_ L_ => ∃ q : Nat, ∃ x1 : Option Addr, ∃ y1 : Nat, ∃ x2 : Option Addr, ∃ y2 : Nat, e_ 3 = .pointer (some ⟨b_2, 0, none⟩) ∧ e_ 4 = .pointer (some ⟨b_3, 0, none⟩) ∧ e_ 5 = .pointer (some ⟨q, 0, none⟩) ∧ L_ = [bk q 33 [.slice x1 r.length y1, .slice x2 w.length y2], Res.row (.slice x1 r.length y1) 9 1 r.length (r.map str), Res.row (.slice x2 w.length y2) 9 1 w.length (w.map str), bk b_3 33 [.slice none 0 0, .slice none 0 0], bk b_2 33 [.slice e1 r'.length f1, .slice e2 w'.length f2]]) ?_ ?_
  · refine jq [bk b_3 33 [.slice none 0 0, .slice none 0 0], bk b_2 33 [.slice e1 r'.length f1, .slice e2 w'.length f2], bk b_1 33 [.slice a1 r.length c1, .slice a2 w.length c2]] 10 mixed (by simp) <| jK 1 rfl (jZ fo33_0 rfl) <| jl 2 rfl (ji 2 (v := .slice a1 r.length c1) rfl rfl ko rfl) <| jK 5 rfl (jZ fo33_1 rfl) <| jl 6 rfl (ji 2 (v := .slice a2 w.length c2) rfl rfl ko rfl) ?_
    refine JA.three (i := 0) (j := 4) (k := 9) (by kernel_rfl) ?_ ?_ ?_
    · refine jO rfl rfl (kI (ps := []) (cur := #[]) kW ka km rfl (by kernel_rfl) (by decide) (by decide)) ?_
      rintro _ _ ⟨a_13, rfl, rfl⟩
      refine ⟨by simp, ?_⟩
      refine JA.three (i := 3) (j := 4) (k := 9) (by kernel_rfl) ?_ ?_ ?_
      · refine jO rfl rfl (kF 0 (q := r.length) (news := r.map str) (n' := r.length) (cs' := r.map str) rfl kW kW kj rfl (by' := 16) rfl rfl rfl rfl rfl (fun w hw => Src.sees (hw.seeOut_ hs_a1 nM) (oneS _)) (by (try simp only [LE]); omega) (by (try simp only [LE]); omega) (by (try simp only [List.length_take, List.length_drop]); first | rfl | omega) rfl) ?_
        rintro _ _ ⟨a_18, c_19, rfl, rfl⟩
        refine ⟨by simp, ?_⟩
        refine kM (i := 4) (j := 9) (by kernel_rfl) ?_ ?_
        · refine jO rfl rfl (kI (ps := []) (cur := #[]) kW ka km rfl (by kernel_rfl) (by decide) (by decide)) ?_
          rintro _ _ ⟨a_22, rfl, rfl⟩
          refine ⟨by simp, ?_⟩
          refine kM (i := 7) (j := 9) (by kernel_rfl) ?_ ?_
          · refine jO rfl rfl (kF 0 (q := w.length) (news := w.map str) (n' := w.length) (cs' := w.map str) rfl kW kW kj rfl (by' := 16) rfl rfl rfl rfl rfl (fun w hw => Src.sees (hw.seeOut_ hs_a2 nM) (oneS _)) (by (try simp only [LE]); omega) (by (try simp only [LE]); omega) (by (try simp only [List.length_take, List.length_drop]); first | rfl | omega) rfl) ?_
            rintro _ _ ⟨a_26, c_27, rfl, rfl⟩
            refine ⟨by simp, ?_⟩
            refine jK 8 rfl (kP (ps := [(0, .slice a_18 r.length c_19), (1, .slice a_26 w.length c_27)]) (cs := [.slice a_18 r.length c_19, .slice a_26 w.length c_27]) rfl (by kernel_rfl)) <| jL (i := 9) ?_
            refine jO rfl rfl (jh (z := .agg #[.slice none 0 0, .slice none 0 0]) (cs := [.slice none 0 0, .slice none 0 0]) ks rfl) ?_
            rintro _ _ ⟨b_29, rfl, rfl⟩
            refine ⟨by simp, ?_⟩
            refine jL (i := 10) ?_
            refine jp rfl (jc 0 (vs := [.slice a_18 r.length c_19, .slice a_26 w.length c_27]) (cs' := [.slice a_18 r.length c_19, .slice a_26 w.length c_27]) rfl rfl rfl rfl kl rfl rfl (lb rfl) rfl) ?_
            rintro _ _ rfl
            refine jr [0, 1, 0, 0, 0] (A := [bk b_29 33 [.slice a_18 r.length c_19, .slice a_26 w.length c_27], Res.row (.slice a_18 r.length c_19) 9 1 r.length (r.map str), Res.row (.slice a_26 w.length c_27) 9 1 w.length (w.map str), bk b_3 33 [.slice none 0 0, .slice none 0 0], bk b_2 33 [.slice e1 r'.length f1, .slice e2 w'.length f2]]) rfl ?_
            exact jy ⟨b_29, a_18, c_19, a_26, c_27, rfl, rfl, rfl, rfl⟩
          refine jO rfl rfl (jh (z := .agg #[.slice none 0 0, .slice none 0 0]) (cs := [.slice none 0 0, .slice none 0 0]) ks rfl) ?_
          rintro _ _ ⟨b_30, rfl, rfl⟩
          refine ⟨by simp, ?_⟩
          refine jL (i := 7) ?_
          refine jO rfl rfl (kF 1 (q := w.length) (news := w.map str) (n' := w.length) (cs' := w.map str) rfl kW kW kj rfl (by' := 16) rfl rfl rfl rfl rfl (fun w hw => Src.sees (hw.seeOut_ hs_a2 nM) (oneS _)) (by (try simp only [LE]); omega) (by (try simp only [LE]); omega) (by (try simp only [List.length_take, List.length_drop]); first | rfl | omega) rfl) ?_
          rintro _ _ ⟨a_33, c_34, rfl, rfl⟩
          refine ⟨by simp, ?_⟩
          refine jK 8 rfl (kP (ps := [(0, .slice a_18 r.length c_19), (1, .slice a_33 w.length c_34)]) (cs := [.slice a_18 r.length c_19, .slice a_33 w.length c_34]) rfl (by kernel_rfl)) <| jL (i := 10) ?_
          refine jp rfl (jc 0 (vs := [.slice a_18 r.length c_19, .slice a_33 w.length c_34]) (cs' := [.slice a_18 r.length c_19, .slice a_33 w.length c_34]) rfl rfl rfl rfl kl rfl rfl (lb rfl) rfl) ?_
          rintro _ _ rfl
          refine jr [0, 1, 0, 0, 0] (A := [bk b_30 33 [.slice a_18 r.length c_19, .slice a_33 w.length c_34], Res.row (.slice a_18 r.length c_19) 9 1 r.length (r.map str), Res.row (.slice a_33 w.length c_34) 9 1 w.length (w.map str), bk b_3 33 [.slice none 0 0, .slice none 0 0], bk b_2 33 [.slice e1 r'.length f1, .slice e2 w'.length f2]]) rfl ?_
          exact jy ⟨b_30, a_18, c_19, a_33, c_34, rfl, rfl, rfl, rfl⟩
        refine jO rfl rfl (jh (z := .agg #[.slice none 0 0, .slice none 0 0]) (cs := [.slice none 0 0, .slice none 0 0]) ks rfl) ?_
        rintro _ _ ⟨b_35, rfl, rfl⟩
        refine ⟨by simp, ?_⟩
        refine jL (i := 4) ?_
        refine jO rfl rfl (kI (ps := []) (cur := #[]) kW ka km rfl (by kernel_rfl) (by decide) (by decide)) ?_
        rintro _ _ ⟨a_37, rfl, rfl⟩
        refine ⟨by simp, ?_⟩
        refine jL (i := 7) ?_
        refine jO rfl rfl (kF 0 (q := w.length) (news := w.map str) (n' := w.length) (cs' := w.map str) rfl kW kW kj rfl (by' := 16) rfl rfl rfl rfl rfl (fun w hw => Src.sees (hw.seeOut_ hs_a2 nM) (oneS _)) (by (try simp only [LE]); omega) (by (try simp only [LE]); omega) (by (try simp only [List.length_take, List.length_drop]); first | rfl | omega) rfl) ?_
        rintro _ _ ⟨a_40, c_41, rfl, rfl⟩
        refine ⟨by simp, ?_⟩
        refine jK 8 rfl (kP (ps := [(0, .slice a_18 r.length c_19), (1, .slice a_40 w.length c_41)]) (cs := [.slice a_18 r.length c_19, .slice a_40 w.length c_41]) rfl (by kernel_rfl)) <| jL (i := 10) ?_
        refine jp rfl (jc 1 (vs := [.slice a_18 r.length c_19, .slice a_40 w.length c_41]) (cs' := [.slice a_18 r.length c_19, .slice a_40 w.length c_41]) rfl rfl rfl rfl kl rfl rfl (lb rfl) rfl) ?_
        rintro _ _ rfl
        refine jr [1, 1, 0, 0, 0] (A := [bk b_35 33 [.slice a_18 r.length c_19, .slice a_40 w.length c_41], Res.row (.slice a_18 r.length c_19) 9 1 r.length (r.map str), Res.row (.slice a_40 w.length c_41) 9 1 w.length (w.map str), bk b_3 33 [.slice none 0 0, .slice none 0 0], bk b_2 33 [.slice e1 r'.length f1, .slice e2 w'.length f2]]) rfl ?_
        exact jy ⟨b_35, a_18, c_19, a_40, c_41, rfl, rfl, rfl, rfl⟩
      · refine jO rfl rfl (kI (ps := []) (cur := #[]) kW ka km rfl (by kernel_rfl) (by decide) (by decide)) ?_
        rintro _ _ ⟨a_42, rfl, rfl⟩
        refine ⟨by simp, ?_⟩
        refine kM (i := 3) (j := 9) (by kernel_rfl) ?_ ?_
        · refine jO rfl rfl (kF 1 (q := r.length) (news := r.map str) (n' := r.length) (cs' := r.map str) rfl kW kW kj rfl (by' := 16) rfl rfl rfl rfl rfl (fun w hw => Src.sees (hw.seeOut_ hs_a1 nM) (oneS _)) (by (try simp only [LE]); omega) (by (try simp only [LE]); omega) (by (try simp only [List.length_take, List.length_drop]); first | rfl | omega) rfl) ?_
          rintro _ _ ⟨a_46, c_47, rfl, rfl⟩
          refine ⟨by simp, ?_⟩
          refine kM (i := 7) (j := 9) (by kernel_rfl) ?_ ?_
          · refine jO rfl rfl (kF 0 (q := w.length) (news := w.map str) (n' := w.length) (cs' := w.map str) rfl kW kW kj rfl (by' := 16) rfl rfl rfl rfl rfl (fun w hw => Src.sees (hw.seeOut_ hs_a2 nM) (oneS _)) (by (try simp only [LE]); omega) (by (try simp only [LE]); omega) (by (try simp only [List.length_take, List.length_drop]); first | rfl | omega) rfl) ?_
            rintro _ _ ⟨a_51, c_52, rfl, rfl⟩
            refine ⟨by simp, ?_⟩
            refine jK 8 rfl (kP (ps := [(0, .slice a_46 r.length c_47), (1, .slice a_51 w.length c_52)]) (cs := [.slice a_46 r.length c_47, .slice a_51 w.length c_52]) rfl (by kernel_rfl)) <| jL (i := 9) ?_
            refine jO rfl rfl (jh (z := .agg #[.slice none 0 0, .slice none 0 0]) (cs := [.slice none 0 0, .slice none 0 0]) ks rfl) ?_
            rintro _ _ ⟨b_54, rfl, rfl⟩
            refine ⟨by simp, ?_⟩
            refine jL (i := 10) ?_
            refine jp rfl (jc 0 (vs := [.slice a_46 r.length c_47, .slice a_51 w.length c_52]) (cs' := [.slice a_46 r.length c_47, .slice a_51 w.length c_52]) rfl rfl rfl rfl kl rfl rfl (lb rfl) rfl) ?_
            rintro _ _ rfl
            refine jr [0, 1, 0, 0, 0] (A := [bk b_54 33 [.slice a_46 r.length c_47, .slice a_51 w.length c_52], Res.row (.slice a_46 r.length c_47) 9 1 r.length (r.map str), Res.row (.slice a_51 w.length c_52) 9 1 w.length (w.map str), bk b_3 33 [.slice none 0 0, .slice none 0 0], bk b_2 33 [.slice e1 r'.length f1, .slice e2 w'.length f2]]) rfl ?_
            exact jy ⟨b_54, a_46, c_47, a_51, c_52, rfl, rfl, rfl, rfl⟩
          refine jO rfl rfl (jh (z := .agg #[.slice none 0 0, .slice none 0 0]) (cs := [.slice none 0 0, .slice none 0 0]) ks rfl) ?_
          rintro _ _ ⟨b_55, rfl, rfl⟩
          refine ⟨by simp, ?_⟩
          refine jL (i := 7) ?_
          refine jO rfl rfl (kF 1 (q := w.length) (news := w.map str) (n' := w.length) (cs' := w.map str) rfl kW kW kj rfl (by' := 16) rfl rfl rfl rfl rfl (fun w hw => Src.sees (hw.seeOut_ hs_a2 nM) (oneS _)) (by (try simp only [LE]); omega) (by (try simp only [LE]); omega) (by (try simp only [List.length_take, List.length_drop]); first | rfl | omega) rfl) ?_
          rintro _ _ ⟨a_58, c_59, rfl, rfl⟩
          refine ⟨by simp, ?_⟩
          refine jK 8 rfl (kP (ps := [(0, .slice a_46 r.length c_47), (1, .slice a_58 w.length c_59)]) (cs := [.slice a_46 r.length c_47, .slice a_58 w.length c_59]) rfl (by kernel_rfl)) <| jL (i := 10) ?_
          refine jp rfl (jc 0 (vs := [.slice a_46 r.length c_47, .slice a_58 w.length c_59]) (cs' := [.slice a_46 r.length c_47, .slice a_58 w.length c_59]) rfl rfl rfl rfl kl rfl rfl (lb rfl) rfl) ?_
          rintro _ _ rfl
          refine jr [0, 1, 0, 0, 0] (A := [bk b_55 33 [.slice a_46 r.length c_47, .slice a_58 w.length c_59], Res.row (.slice a_46 r.length c_47) 9 1 r.length (r.map str), Res.row (.slice a_58 w.length c_59) 9 1 w.length (w.map str), bk b_3 33 [.slice none 0 0, .slice none 0 0], bk b_2 33 [.slice e1 r'.length f1, .slice e2 w'.length f2]]) rfl ?_
          exact jy ⟨b_55, a_46, c_47, a_58, c_59, rfl, rfl, rfl, rfl⟩
        refine jO rfl rfl (jh (z := .agg #[.slice none 0 0, .slice none 0 0]) (cs := [.slice none 0 0, .slice none 0 0]) ks rfl) ?_
        rintro _ _ ⟨b_60, rfl, rfl⟩
        refine ⟨by simp, ?_⟩
        refine jL (i := 3) ?_
        refine jO rfl rfl (kF 2 (q := r.length) (news := r.map str) (n' := r.length) (cs' := r.map str) rfl kW kW kj rfl (by' := 16) rfl rfl rfl rfl rfl (fun w hw => Src.sees (hw.seeOut_ hs_a1 nM) (oneS _)) (by (try simp only [LE]); omega) (by (try simp only [LE]); omega) (by (try simp only [List.length_take, List.length_drop]); first | rfl | omega) rfl) ?_
        rintro _ _ ⟨a_63, c_64, rfl, rfl⟩
        refine ⟨by simp, ?_⟩
        refine jL (i := 7) ?_
        refine jO rfl rfl (kF 1 (q := w.length) (news := w.map str) (n' := w.length) (cs' := w.map str) rfl kW kW kj rfl (by' := 16) rfl rfl rfl rfl rfl (fun w hw => Src.sees (hw.seeOut_ hs_a2 nM) (oneS _)) (by (try simp only [LE]); omega) (by (try simp only [LE]); omega) (by (try simp only [List.length_take, List.length_drop]); first | rfl | omega) rfl) ?_
        rintro _ _ ⟨a_67, c_68, rfl, rfl⟩
        refine ⟨by simp, ?_⟩
        refine jK 8 rfl (kP (ps := [(0, .slice a_63 r.length c_64), (1, .slice a_67 w.length c_68)]) (cs := [.slice a_63 r.length c_64, .slice a_67 w.length c_68]) rfl (by kernel_rfl)) <| jL (i := 10) ?_
        refine jp rfl (jc 0 (vs := [.slice a_63 r.length c_64, .slice a_67 w.length c_68]) (cs' := [.slice a_63 r.length c_64, .slice a_67 w.length c_68]) rfl rfl rfl rfl kl rfl rfl (lb rfl) rfl) ?_
        rintro _ _ rfl
        refine jr [0, 1, 0, 0, 0] (A := [bk b_60 33 [.slice a_63 r.length c_64, .slice a_67 w.length c_68], Res.row (.slice a_63 r.length c_64) 9 1 r.length (r.map str), Res.row (.slice a_67 w.length c_68) 9 1 w.length (w.map str), bk b_3 33 [.slice none 0 0, .slice none 0 0], bk b_2 33 [.slice e1 r'.length f1, .slice e2 w'.length f2]]) rfl ?_
        exact jy ⟨b_60, a_63, c_64, a_67, c_68, rfl, rfl, rfl, rfl⟩
      refine jO rfl rfl (jh (z := .agg #[.slice none 0 0, .slice none 0 0]) (cs := [.slice none 0 0, .slice none 0 0]) ks rfl) ?_
      rintro _ _ ⟨b_69, rfl, rfl⟩
      refine ⟨by simp, ?_⟩
      refine kM (i := 3) (j := 4) (by kernel_rfl) ?_ ?_
      · refine jO rfl rfl (kF 1 (q := r.length) (news := r.map str) (n' := r.length) (cs' := r.map str) rfl kW kW kj rfl (by' := 16) rfl rfl rfl rfl rfl (fun w hw => Src.sees (hw.seeOut_ hs_a1 nM) (oneS _)) (by (try simp only [LE]); omega) (by (try simp only [LE]); omega) (by (try simp only [List.length_take, List.length_drop]); first | rfl | omega) rfl) ?_
        rintro _ _ ⟨a_73, c_74, rfl, rfl⟩
        refine ⟨by simp, ?_⟩
        refine jL (i := 4) ?_
        refine jO rfl rfl (kI (ps := []) (cur := #[]) kW ka km rfl (by kernel_rfl) (by decide) (by decide)) ?_
        rintro _ _ ⟨a_76, rfl, rfl⟩
        refine ⟨by simp, ?_⟩
        refine jL (i := 7) ?_
        refine jO rfl rfl (kF 0 (q := w.length) (news := w.map str) (n' := w.length) (cs' := w.map str) rfl kW kW kj rfl (by' := 16) rfl rfl rfl rfl rfl (fun w hw => Src.sees (hw.seeOut_ hs_a2 nM) (oneS _)) (by (try simp only [LE]); omega) (by (try simp only [LE]); omega) (by (try simp only [List.length_take, List.length_drop]); first | rfl | omega) rfl) ?_
        rintro _ _ ⟨a_79, c_80, rfl, rfl⟩
        refine ⟨by simp, ?_⟩
        refine jK 8 rfl (kP (ps := [(0, .slice a_73 r.length c_74), (1, .slice a_79 w.length c_80)]) (cs := [.slice a_73 r.length c_74, .slice a_79 w.length c_80]) rfl (by kernel_rfl)) <| jL (i := 10) ?_
        refine jp rfl (jc 1 (vs := [.slice a_73 r.length c_74, .slice a_79 w.length c_80]) (cs' := [.slice a_73 r.length c_74, .slice a_79 w.length c_80]) rfl rfl rfl rfl kl rfl rfl (lb rfl) rfl) ?_
        rintro _ _ rfl
        refine jr [1, 1, 0, 0, 0] (A := [bk b_69 33 [.slice a_73 r.length c_74, .slice a_79 w.length c_80], Res.row (.slice a_73 r.length c_74) 9 1 r.length (r.map str), Res.row (.slice a_79 w.length c_80) 9 1 w.length (w.map str), bk b_3 33 [.slice none 0 0, .slice none 0 0], bk b_2 33 [.slice e1 r'.length f1, .slice e2 w'.length f2]]) rfl ?_
        exact jy ⟨b_69, a_73, c_74, a_79, c_80, rfl, rfl, rfl, rfl⟩
      refine jO rfl rfl (kI (ps := []) (cur := #[]) kW ka km rfl (by kernel_rfl) (by decide) (by decide)) ?_
      rintro _ _ ⟨a_81, rfl, rfl⟩
      refine ⟨by simp, ?_⟩
      refine jL (i := 3) ?_
      refine jO rfl rfl (kF 2 (q := r.length) (news := r.map str) (n' := r.length) (cs' := r.map str) rfl kW kW kj rfl (by' := 16) rfl rfl rfl rfl rfl (fun w hw => Src.sees (hw.seeOut_ hs_a1 nM) (oneS _)) (by (try simp only [LE]); omega) (by (try simp only [LE]); omega) (by (try simp only [List.length_take, List.length_drop]); first | rfl | omega) rfl) ?_
      rintro _ _ ⟨a_84, c_85, rfl, rfl⟩
      refine ⟨by simp, ?_⟩
      refine jL (i := 7) ?_
      refine jO rfl rfl (kF 0 (q := w.length) (news := w.map str) (n' := w.length) (cs' := w.map str) rfl kW kW kj rfl (by' := 16) rfl rfl rfl rfl rfl (fun w hw => Src.sees (hw.seeOut_ hs_a2 nM) (oneS _)) (by (try simp only [LE]); omega) (by (try simp only [LE]); omega) (by (try simp only [List.length_take, List.length_drop]); first | rfl | omega) rfl) ?_
      rintro _ _ ⟨a_88, c_89, rfl, rfl⟩
      refine ⟨by simp, ?_⟩
      refine jK 8 rfl (kP (ps := [(0, .slice a_84 r.length c_85), (1, .slice a_88 w.length c_89)]) (cs := [.slice a_84 r.length c_85, .slice a_88 w.length c_89]) rfl (by kernel_rfl)) <| jL (i := 10) ?_
      refine jp rfl (jc 1 (vs := [.slice a_84 r.length c_85, .slice a_88 w.length c_89]) (cs' := [.slice a_84 r.length c_85, .slice a_88 w.length c_89]) rfl rfl rfl rfl kl rfl rfl (lb rfl) rfl) ?_
      rintro _ _ rfl
      refine jr [1, 1, 0, 0, 0] (A := [bk b_69 33 [.slice a_84 r.length c_85, .slice a_88 w.length c_89], Res.row (.slice a_84 r.length c_85) 9 1 r.length (r.map str), Res.row (.slice a_88 w.length c_89) 9 1 w.length (w.map str), bk b_3 33 [.slice none 0 0, .slice none 0 0], bk b_2 33 [.slice e1 r'.length f1, .slice e2 w'.length f2]]) rfl ?_
      exact jy ⟨b_69, a_84, c_85, a_88, c_89, rfl, rfl, rfl, rfl⟩
    · refine jO rfl rfl (kI (ps := []) (cur := #[]) kW ka km rfl (by kernel_rfl) (by decide) (by decide)) ?_
      rintro _ _ ⟨a_90, rfl, rfl⟩
      refine ⟨by simp, ?_⟩
      refine kM (i := 0) (j := 9) (by kernel_rfl) ?_ ?_
      · refine jO rfl rfl (kI (ps := []) (cur := #[]) kW ka km rfl (by kernel_rfl) (by decide) (by decide)) ?_
        rintro _ _ ⟨a_93, rfl, rfl⟩
        refine ⟨by simp, ?_⟩
        refine kM (i := 3) (j := 9) (by kernel_rfl) ?_ ?_
        · refine jO rfl rfl (kF 0 (q := r.length) (news := r.map str) (n' := r.length) (cs' := r.map str) rfl kW kW kj rfl (by' := 16) rfl rfl rfl rfl rfl (fun w hw => Src.sees (hw.seeOut_ hs_a1 nM) (oneS _)) (by (try simp only [LE]); omega) (by (try simp only [LE]); omega) (by (try simp only [List.length_take, List.length_drop]); first | rfl | omega) rfl) ?_
          rintro _ _ ⟨a_97, c_98, rfl, rfl⟩
          refine ⟨by simp, ?_⟩
          refine kM (i := 7) (j := 9) (by kernel_rfl) ?_ ?_
          · refine jO rfl rfl (kF 1 (q := w.length) (news := w.map str) (n' := w.length) (cs' := w.map str) rfl kW kW kj rfl (by' := 16) rfl rfl rfl rfl rfl (fun w hw => Src.sees (hw.seeOut_ hs_a2 nM) (oneS _)) (by (try simp only [LE]); omega) (by (try simp only [LE]); omega) (by (try simp only [List.length_take, List.length_drop]); first | rfl | omega) rfl) ?_
            rintro _ _ ⟨a_102, c_103, rfl, rfl⟩
            refine ⟨by simp, ?_⟩
            refine jK 8 rfl (kP (ps := [(0, .slice a_97 r.length c_98), (1, .slice a_102 w.length c_103)]) (cs := [.slice a_97 r.length c_98, .slice a_102 w.length c_103]) rfl (by kernel_rfl)) <| jL (i := 9) ?_
            refine jO rfl rfl (jh (z := .agg #[.slice none 0 0, .slice none 0 0]) (cs := [.slice none 0 0, .slice none 0 0]) ks rfl) ?_
            rintro _ _ ⟨b_105, rfl, rfl⟩
            refine ⟨by simp, ?_⟩
            refine jL (i := 10) ?_
            refine jp rfl (jc 0 (vs := [.slice a_97 r.length c_98, .slice a_102 w.length c_103]) (cs' := [.slice a_97 r.length c_98, .slice a_102 w.length c_103]) rfl rfl rfl rfl kl rfl rfl (lb rfl) rfl) ?_
            rintro _ _ rfl
            refine jr [0, 0, 0, 0, 0] (A := [bk b_105 33 [.slice a_97 r.length c_98, .slice a_102 w.length c_103], Res.row (.slice a_97 r.length c_98) 9 1 r.length (r.map str), Res.row (.slice a_102 w.length c_103) 9 1 w.length (w.map str), bk b_3 33 [.slice none 0 0, .slice none 0 0], bk b_2 33 [.slice e1 r'.length f1, .slice e2 w'.length f2]]) rfl ?_
            exact jy ⟨b_105, a_97, c_98, a_102, c_103, rfl, rfl, rfl, rfl⟩
          refine jO rfl rfl (jh (z := .agg #[.slice none 0 0, .slice none 0 0]) (cs := [.slice none 0 0, .slice none 0 0]) ks rfl) ?_
          rintro _ _ ⟨b_106, rfl, rfl⟩
          refine ⟨by simp, ?_⟩
          refine jL (i := 7) ?_
          refine jO rfl rfl (kF 2 (q := w.length) (news := w.map str) (n' := w.length) (cs' := w.map str) rfl kW kW kj rfl (by' := 16) rfl rfl rfl rfl rfl (fun w hw => Src.sees (hw.seeOut_ hs_a2 nM) (oneS _)) (by (try simp only [LE]); omega) (by (try simp only [LE]); omega) (by (try simp only [List.length_take, List.length_drop]); first | rfl | omega) rfl) ?_
          rintro _ _ ⟨a_109, c_110, rfl, rfl⟩
          refine ⟨by simp, ?_⟩
          refine jK 8 rfl (kP (ps := [(0, .slice a_97 r.length c_98), (1, .slice a_109 w.length c_110)]) (cs := [.slice a_97 r.length c_98, .slice a_109 w.length c_110]) rfl (by kernel_rfl)) <| jL (i := 10) ?_
          refine jp rfl (jc 0 (vs := [.slice a_97 r.length c_98, .slice a_109 w.length c_110]) (cs' := [.slice a_97 r.length c_98, .slice a_109 w.length c_110]) rfl rfl rfl rfl kl rfl rfl (lb rfl) rfl) ?_
          rintro _ _ rfl
          refine jr [0, 0, 0, 0, 0] (A := [bk b_106 33 [.slice a_97 r.length c_98, .slice a_109 w.length c_110], Res.row (.slice a_97 r.length c_98) 9 1 r.length (r.map str), Res.row (.slice a_109 w.length c_110) 9 1 w.length (w.map str), bk b_3 33 [.slice none 0 0, .slice none 0 0], bk b_2 33 [.slice e1 r'.length f1, .slice e2 w'.length f2]]) rfl ?_
          exact jy ⟨b_106, a_97, c_98, a_109, c_110, rfl, rfl, rfl, rfl⟩
        refine jO rfl rfl (jh (z := .agg #[.slice none 0 0, .slice none 0 0]) (cs := [.slice none 0 0, .slice none 0 0]) ks rfl) ?_
        rintro _ _ ⟨b_111, rfl, rfl⟩
        refine ⟨by simp, ?_⟩
        refine jL (i := 3) ?_
        refine jO rfl rfl (kF 1 (q := r.length) (news := r.map str) (n' := r.length) (cs' := r.map str) rfl kW kW kj rfl (by' := 16) rfl rfl rfl rfl rfl (fun w hw => Src.sees (hw.seeOut_ hs_a1 nM) (oneS _)) (by (try simp only [LE]); omega) (by (try simp only [LE]); omega) (by (try simp only [List.length_take, List.length_drop]); first | rfl | omega) rfl) ?_
        rintro _ _ ⟨a_114, c_115, rfl, rfl⟩
        refine ⟨by simp, ?_⟩
        refine jL (i := 7) ?_
        refine jO rfl rfl (kF 2 (q := w.length) (news := w.map str) (n' := w.length) (cs' := w.map str) rfl kW kW kj rfl (by' := 16) rfl rfl rfl rfl rfl (fun w hw => Src.sees (hw.seeOut_ hs_a2 nM) (oneS _)) (by (try simp only [LE]); omega) (by (try simp only [LE]); omega) (by (try simp only [List.length_take, List.length_drop]); first | rfl | omega) rfl) ?_
        rintro _ _ ⟨a_118, c_119, rfl, rfl⟩
        refine ⟨by simp, ?_⟩
        refine jK 8 rfl (kP (ps := [(0, .slice a_114 r.length c_115), (1, .slice a_118 w.length c_119)]) (cs := [.slice a_114 r.length c_115, .slice a_118 w.length c_119]) rfl (by kernel_rfl)) <| jL (i := 10) ?_
        refine jp rfl (jc 0 (vs := [.slice a_114 r.length c_115, .slice a_118 w.length c_119]) (cs' := [.slice a_114 r.length c_115, .slice a_118 w.length c_119]) rfl rfl rfl rfl kl rfl rfl (lb rfl) rfl) ?_
        rintro _ _ rfl
        refine jr [0, 0, 0, 0, 0] (A := [bk b_111 33 [.slice a_114 r.length c_115, .slice a_118 w.length c_119], Res.row (.slice a_114 r.length c_115) 9 1 r.length (r.map str), Res.row (.slice a_118 w.length c_119) 9 1 w.length (w.map str), bk b_3 33 [.slice none 0 0, .slice none 0 0], bk b_2 33 [.slice e1 r'.length f1, .slice e2 w'.length f2]]) rfl ?_
        exact jy ⟨b_111, a_114, c_115, a_118, c_119, rfl, rfl, rfl, rfl⟩
      refine jO rfl rfl (jh (z := .agg #[.slice none 0 0, .slice none 0 0]) (cs := [.slice none 0 0, .slice none 0 0]) ks rfl) ?_
      rintro _ _ ⟨b_120, rfl, rfl⟩
      refine ⟨by simp, ?_⟩
      refine jL (i := 0) ?_
      refine jO rfl rfl (kI (ps := []) (cur := #[]) kW ka km rfl (by kernel_rfl) (by decide) (by decide)) ?_
      rintro _ _ ⟨a_122, rfl, rfl⟩
      refine ⟨by simp, ?_⟩
      refine jL (i := 3) ?_
      refine jO rfl rfl (kF 0 (q := r.length) (news := r.map str) (n' := r.length) (cs' := r.map str) rfl kW kW kj rfl (by' := 16) rfl rfl rfl rfl rfl (fun w hw => Src.sees (hw.seeOut_ hs_a1 nM) (oneS _)) (by (try simp only [LE]); omega) (by (try simp only [LE]); omega) (by (try simp only [List.length_take, List.length_drop]); first | rfl | omega) rfl) ?_
      rintro _ _ ⟨a_125, c_126, rfl, rfl⟩
      refine ⟨by simp, ?_⟩
      refine jL (i := 7) ?_
      refine jO rfl rfl (kF 2 (q := w.length) (news := w.map str) (n' := w.length) (cs' := w.map str) rfl kW kW kj rfl (by' := 16) rfl rfl rfl rfl rfl (fun w hw => Src.sees (hw.seeOut_ hs_a2 nM) (oneS _)) (by (try simp only [LE]); omega) (by (try simp only [LE]); omega) (by (try simp only [List.length_take, List.length_drop]); first | rfl | omega) rfl) ?_
      rintro _ _ ⟨a_129, c_130, rfl, rfl⟩
      refine ⟨by simp, ?_⟩
      refine jK 8 rfl (kP (ps := [(0, .slice a_125 r.length c_126), (1, .slice a_129 w.length c_130)]) (cs := [.slice a_125 r.length c_126, .slice a_129 w.length c_130]) rfl (by kernel_rfl)) <| jL (i := 10) ?_
      refine jp rfl (jc 1 (vs := [.slice a_125 r.length c_126, .slice a_129 w.length c_130]) (cs' := [.slice a_125 r.length c_126, .slice a_129 w.length c_130]) rfl rfl rfl rfl kl rfl rfl (lb rfl) rfl) ?_
      rintro _ _ rfl
      refine jr [1, 0, 0, 0, 0] (A := [bk b_120 33 [.slice a_125 r.length c_126, .slice a_129 w.length c_130], Res.row (.slice a_125 r.length c_126) 9 1 r.length (r.map str), Res.row (.slice a_129 w.length c_130) 9 1 w.length (w.map str), bk b_3 33 [.slice none 0 0, .slice none 0 0], bk b_2 33 [.slice e1 r'.length f1, .slice e2 w'.length f2]]) rfl ?_
      exact jy ⟨b_120, a_125, c_126, a_129, c_130, rfl, rfl, rfl, rfl⟩
    refine jO rfl rfl (jh (z := .agg #[.slice none 0 0, .slice none 0 0]) (cs := [.slice none 0 0, .slice none 0 0]) ks rfl) ?_
    rintro _ _ ⟨b_131, rfl, rfl⟩
    refine ⟨by simp, ?_⟩
    refine kM (i := 0) (j := 4) (by kernel_rfl) ?_ ?_
    · refine jO rfl rfl (kI (ps := []) (cur := #[]) kW ka km rfl (by kernel_rfl) (by decide) (by decide)) ?_
      rintro _ _ ⟨a_134, rfl, rfl⟩
      refine ⟨by simp, ?_⟩
      refine kM (i := 3) (j := 4) (by kernel_rfl) ?_ ?_
      · refine jO rfl rfl (kF 0 (q := r.length) (news := r.map str) (n' := r.length) (cs' := r.map str) rfl kW kW kj rfl (by' := 16) rfl rfl rfl rfl rfl (fun w hw => Src.sees (hw.seeOut_ hs_a1 nM) (oneS _)) (by (try simp only [LE]); omega) (by (try simp only [LE]); omega) (by (try simp only [List.length_take, List.length_drop]); first | rfl | omega) rfl) ?_
        rintro _ _ ⟨a_138, c_139, rfl, rfl⟩
        refine ⟨by simp, ?_⟩
        refine jL (i := 4) ?_
        refine jO rfl rfl (kI (ps := []) (cur := #[]) kW ka km rfl (by kernel_rfl) (by decide) (by decide)) ?_
        rintro _ _ ⟨a_141, rfl, rfl⟩
        refine ⟨by simp, ?_⟩
        refine jL (i := 7) ?_
        refine jO rfl rfl (kF 0 (q := w.length) (news := w.map str) (n' := w.length) (cs' := w.map str) rfl kW kW kj rfl (by' := 16) rfl rfl rfl rfl rfl (fun w hw => Src.sees (hw.seeOut_ hs_a2 nM) (oneS _)) (by (try simp only [LE]); omega) (by (try simp only [LE]); omega) (by (try simp only [List.length_take, List.length_drop]); first | rfl | omega) rfl) ?_
        rintro _ _ ⟨a_144, c_145, rfl, rfl⟩
        refine ⟨by simp, ?_⟩
        refine jK 8 rfl (kP (ps := [(0, .slice a_138 r.length c_139), (1, .slice a_144 w.length c_145)]) (cs := [.slice a_138 r.length c_139, .slice a_144 w.length c_145]) rfl (by kernel_rfl)) <| jL (i := 10) ?_
        refine jp rfl (jc 2 (vs := [.slice a_138 r.length c_139, .slice a_144 w.length c_145]) (cs' := [.slice a_138 r.length c_139, .slice a_144 w.length c_145]) rfl rfl rfl rfl kl rfl rfl (lb rfl) rfl) ?_
        rintro _ _ rfl
        refine jr [2, 1, 0, 0, 0] (A := [bk b_131 33 [.slice a_138 r.length c_139, .slice a_144 w.length c_145], Res.row (.slice a_138 r.length c_139) 9 1 r.length (r.map str), Res.row (.slice a_144 w.length c_145) 9 1 w.length (w.map str), bk b_3 33 [.slice none 0 0, .slice none 0 0], bk b_2 33 [.slice e1 r'.length f1, .slice e2 w'.length f2]]) rfl ?_
        exact jy ⟨b_131, a_138, c_139, a_144, c_145, rfl, rfl, rfl, rfl⟩
      refine jO rfl rfl (kI (ps := []) (cur := #[]) kW ka km rfl (by kernel_rfl) (by decide) (by decide)) ?_
      rintro _ _ ⟨a_146, rfl, rfl⟩
      refine ⟨by simp, ?_⟩
      refine jL (i := 3) ?_
      refine jO rfl rfl (kF 1 (q := r.length) (news := r.map str) (n' := r.length) (cs' := r.map str) rfl kW kW kj rfl (by' := 16) rfl rfl rfl rfl rfl (fun w hw => Src.sees (hw.seeOut_ hs_a1 nM) (oneS _)) (by (try simp only [LE]); omega) (by (try simp only [LE]); omega) (by (try simp only [List.length_take, List.length_drop]); first | rfl | omega) rfl) ?_
      rintro _ _ ⟨a_149, c_150, rfl, rfl⟩
      refine ⟨by simp, ?_⟩
      refine jL (i := 7) ?_
      refine jO rfl rfl (kF 0 (q := w.length) (news := w.map str) (n' := w.length) (cs' := w.map str) rfl kW kW kj rfl (by' := 16) rfl rfl rfl rfl rfl (fun w hw => Src.sees (hw.seeOut_ hs_a2 nM) (oneS _)) (by (try simp only [LE]); omega) (by (try simp only [LE]); omega) (by (try simp only [List.length_take, List.length_drop]); first | rfl | omega) rfl) ?_
      rintro _ _ ⟨a_153, c_154, rfl, rfl⟩
      refine ⟨by simp, ?_⟩
      refine jK 8 rfl (kP (ps := [(0, .slice a_149 r.length c_150), (1, .slice a_153 w.length c_154)]) (cs := [.slice a_149 r.length c_150, .slice a_153 w.length c_154]) rfl (by kernel_rfl)) <| jL (i := 10) ?_
      refine jp rfl (jc 2 (vs := [.slice a_149 r.length c_150, .slice a_153 w.length c_154]) (cs' := [.slice a_149 r.length c_150, .slice a_153 w.length c_154]) rfl rfl rfl rfl kl rfl rfl (lb rfl) rfl) ?_
      rintro _ _ rfl
      refine jr [2, 1, 0, 0, 0] (A := [bk b_131 33 [.slice a_149 r.length c_150, .slice a_153 w.length c_154], Res.row (.slice a_149 r.length c_150) 9 1 r.length (r.map str), Res.row (.slice a_153 w.length c_154) 9 1 w.length (w.map str), bk b_3 33 [.slice none 0 0, .slice none 0 0], bk b_2 33 [.slice e1 r'.length f1, .slice e2 w'.length f2]]) rfl ?_
      exact jy ⟨b_131, a_149, c_150, a_153, c_154, rfl, rfl, rfl, rfl⟩
    refine jO rfl rfl (kI (ps := []) (cur := #[]) kW ka km rfl (by kernel_rfl) (by decide) (by decide)) ?_
    rintro _ _ ⟨a_155, rfl, rfl⟩
    refine ⟨by simp, ?_⟩
    refine jL (i := 0) ?_
    refine jO rfl rfl (kI (ps := []) (cur := #[]) kW ka km rfl (by kernel_rfl) (by decide) (by decide)) ?_
    rintro _ _ ⟨a_157, rfl, rfl⟩
    refine ⟨by simp, ?_⟩
    refine jL (i := 3) ?_
    refine jO rfl rfl (kF 0 (q := r.length) (news := r.map str) (n' := r.length) (cs' := r.map str) rfl kW kW kj rfl (by' := 16) rfl rfl rfl rfl rfl (fun w hw => Src.sees (hw.seeOut_ hs_a1 nM) (oneS _)) (by (try simp only [LE]); omega) (by (try simp only [LE]); omega) (by (try simp only [List.length_take, List.length_drop]); first | rfl | omega) rfl) ?_
    rintro _ _ ⟨a_160, c_161, rfl, rfl⟩
    refine ⟨by simp, ?_⟩
    refine jL (i := 7) ?_
    refine jO rfl rfl (kF 1 (q := w.length) (news := w.map str) (n' := w.length) (cs' := w.map str) rfl kW kW kj rfl (by' := 16) rfl rfl rfl rfl rfl (fun w hw => Src.sees (hw.seeOut_ hs_a2 nM) (oneS _)) (by (try simp only [LE]); omega) (by (try simp only [LE]); omega) (by (try simp only [List.length_take, List.length_drop]); first | rfl | omega) rfl) ?_
    rintro _ _ ⟨a_164, c_165, rfl, rfl⟩
    refine ⟨by simp, ?_⟩
    refine jK 8 rfl (kP (ps := [(0, .slice a_160 r.length c_161), (1, .slice a_164 w.length c_165)]) (cs := [.slice a_160 r.length c_161, .slice a_164 w.length c_165]) rfl (by kernel_rfl)) <| jL (i := 10) ?_
    refine jp rfl (jc 2 (vs := [.slice a_160 r.length c_161, .slice a_164 w.length c_165]) (cs' := [.slice a_160 r.length c_161, .slice a_164 w.length c_165]) rfl rfl rfl rfl kl rfl rfl (lb rfl) rfl) ?_
    rintro _ _ rfl
    refine jr [2, 0, 0, 0, 0] (A := [bk b_131 33 [.slice a_160 r.length c_161, .slice a_164 w.length c_165], Res.row (.slice a_160 r.length c_161) 9 1 r.length (r.map str), Res.row (.slice a_164 w.length c_165) 9 1 w.length (w.map str), bk b_3 33 [.slice none 0 0, .slice none 0 0], bk b_2 33 [.slice e1 r'.length f1, .slice e2 w'.length f2]]) rfl ?_
    exact jy ⟨b_131, a_160, c_161, a_164, c_165, rfl, rfl, rfl, rfl⟩
  rintro e_166 _ ⟨q, x1, y1, x2, y2, he_167, he_168, he_169, rfl⟩
  refine jB <| jD <| jD <| jF <| jA (jG (v := iv 0) rfl) <| jE <| jB <| jm <| kE (fun k_ e_ L_ => ∃ j : Nat, ∃ D : List Str, ∃ x1 : Option Addr, ∃ y1 : Nat, (j ≤ r'.length) ∧ (D = (r'.take j).foldl addSpan r) ∧ (D.length ≤ r.length + j) ∧ e_ 3 = .pointer (some ⟨b_2, 0, none⟩) ∧ e_ 4 = .pointer (some ⟨b_3, 0, none⟩) ∧ e_ 5 = .pointer (some ⟨q, 0, none⟩) ∧ e_ 6 = nv j ∧ L_ = [bk q 33 [.slice x1 D.length y1, .slice x2 w.length y2], Res.row (.slice x1 D.length y1) 9 1 D.length (D.map str), Res.row (.slice x2 w.length y2) 9 1 w.length (w.map str), bk b_3 33 [.slice none 0 0, .slice none 0 0], bk b_2 33 [.slice e1 r'.length f1, .slice e2 w'.length f2]] ∧ k_ = r'.length - j) _ ⟨0, r, x1, y1, by omega, rfl, by omega, he_167, he_168, he_169, rfl, rfl, rfl⟩ ?_
  rintro _ e_170 _ ⟨j, D, x1, y1, hj, hD, hl, he_171, he_172, he_173, he_174, rfl, rfl⟩
  refine jD <| jD <| jF <| jA (jC (v := nv j) he_174) <| jA (jZ fo33_0 he_171) <| jT (ji 4 (v := .slice e1 r'.length f1) rfl rfl ko rfl) <| jA (kK kW rfl) <| jA (js rfl rfl) <| jE <| jB ?_
  by_cases h_175 : ((j : Nat) : Int) < ((r'.length : Nat) : Int)
  · have hlt : j < r'.length := by omega
    refine jR (cB (dT h_175)) <| jU <| jB <| jD <| jm <| jq [bk q 33 [.slice x1 D.length y1, .slice x2 w.length y2], Res.row (.slice x1 D.length y1) 9 1 D.length (D.map str), Res.row (.slice x2 w.length y2) 9 1 w.length (w.map str), bk b_3 33 [.slice none 0 0, .slice none 0 0], bk b_2 33 [.slice e1 r'.length f1, .slice e2 w'.length f2]] 8 mixed (by simp) <| jK 0 rfl (jZ fo33_0 he_173) <| jl 1 rfl (ji 0 (v := .slice x1 D.length y1) rfl rfl ko rfl) <| jK 2 rfl (jZ fo33_0 he_171) <| jl 3 rfl (ji 4 (v := .slice e1 r'.length f1) rfl rfl ko rfl) ?_
    refine jK 4 rfl (jC (v := nv j) he_174) ?_
    obtain ⟨hr_176, hr_176b, -⟩ := sees_some hs_e1 (by omega)
    refine jK 5 rfl (kH (i := j) kW ka hr_176 hr_176b rfl rfl (by omega)) <| jl 6 rfl (LO.loadS1 (v := str (r'.getD j [])) hs_e1 nM rfl kZ (atS (by omega))) <| jL (i := 7) ?_
    refine jO rfl rfl (jI [] Tryz.call116 rfl (C_sAddSpan x1 y1 D (r'.getD j []) (by omega)) rfl (fun w hw => hw.see (i := 1) rfl)) ?_
    rintro _ _ ⟨_, ⟨a_179, c_180, rfl, rfl⟩, rfl⟩
    refine ⟨by simp, ?_⟩
    refine jK 8 rfl (jZ fo33_0 he_173) <| jL (i := 9) ?_
    refine jp rfl (jc 1 (vs := [.slice a_179 ((addSpan D (r'.getD j [])).length) c_180]) (cs' := [.slice a_179 ((addSpan D (r'.getD j [])).length) c_180, .slice x2 w.length y2]) rfl rfl rfl rfl Tryz.sizeOf23 rfl rfl (lb rfl) rfl) ?_
    rintro _ _ rfl
    refine jk <| jB <| jF <| jA (jC (v := nv j) he_174) <| jA (jg (c := ((j + 1 : Nat) : Int)) rfl rfl (wr (by omega))) <| jA (jG (v := iv ((j + 1 : Nat) : Int)) rfl) <| jE <| jr [1, 0, 1, 1, 1] (A := [bk q 33 [.slice a_179 ((addSpan D (r'.getD j [])).length) c_180, .slice x2 w.length y2], Res.row (.slice a_179 ((addSpan D (r'.getD j [])).length) c_180) 9 1 ((addSpan D (r'.getD j [])).length) ((addSpan D (r'.getD j [])).map str), Res.row (.slice x2 w.length y2) 9 1 w.length (w.map str), bk b_3 33 [.slice none 0 0, .slice none 0 0], bk b_2 33 [.slice e1 r'.length f1, .slice e2 w'.length f2]]) rfl ?_
    refine jt (r'.length - (j + 1)) (by omega) ⟨j + 1, (addSpan D (r'.getD j [])), a_179, c_180, by omega, (by rw [take_at (getD_some (d := []) hlt), List.foldl_append, ← hD]; rfl), (by have := addSpan_len D (r'.getD j []); omega), he_171, he_172, he_173, rfl, rfl, rfl⟩
  rw [List.take_of_length_le (by omega)] at hD
  have hDr := hD
  have hlr := hl
  refine jQ (cB (dF h_175)) <| kB <| jn <| jn <| kC <| jB <| jD <| jD <| jF <| jA (jG (v := iv 0) rfl) ?_
  refine jE <| jB <| jm <| kE (fun k_ e_ L_ => ∃ j : Nat, ∃ E : List Str, ∃ x2 : Option Addr, ∃ y2 : Nat, (j ≤ w'.length) ∧ (E = (w'.take j).foldl addSpan w) ∧ (E.length ≤ w.length + j) ∧ e_ 3 = .pointer (some ⟨b_2, 0, none⟩) ∧ e_ 4 = .pointer (some ⟨b_3, 0, none⟩) ∧ e_ 5 = .pointer (some ⟨q, 0, none⟩) ∧ e_ 7 = nv j ∧ L_ = [bk q 33 [.slice x1 D.length y1, .slice x2 E.length y2], Res.row (.slice x1 D.length y1) 9 1 D.length (D.map str), Res.row (.slice x2 E.length y2) 9 1 E.length (E.map str), bk b_3 33 [.slice none 0 0, .slice none 0 0], bk b_2 33 [.slice e1 r'.length f1, .slice e2 w'.length f2]] ∧ k_ = w'.length - j) _ ⟨0, w, x2, y2, by omega, rfl, by omega, he_171, he_172, he_173, rfl, rfl, rfl⟩ ?_
  rintro _ e_181 _ ⟨j, E, x2, y2, hj, hD, hl, he_182, he_183, he_184, he_185, rfl, rfl⟩
  refine jD <| jD <| jF <| jA (jC (v := nv j) he_185) <| jA (jZ fo33_1 he_182) <| jT (ji 4 (v := .slice e2 w'.length f2) rfl rfl ko rfl) <| jA (kK kW rfl) <| jA (js rfl rfl) <| jE <| jB ?_
  by_cases h_186 : ((j : Nat) : Int) < ((w'.length : Nat) : Int)
  · have hlt : j < w'.length := by omega
    refine jR (cB (dT h_186)) <| jU <| jB <| jD <| jm <| jq [bk q 33 [.slice x1 D.length y1, .slice x2 E.length y2], Res.row (.slice x1 D.length y1) 9 1 D.length (D.map str), Res.row (.slice x2 E.length y2) 9 1 E.length (E.map str), bk b_3 33 [.slice none 0 0, .slice none 0 0], bk b_2 33 [.slice e1 r'.length f1, .slice e2 w'.length f2]] 8 mixed (by simp) <| jK 0 rfl (jZ fo33_1 he_184) <| jl 1 rfl (ji 0 (v := .slice x2 E.length y2) rfl rfl ko rfl) <| jK 2 rfl (jZ fo33_1 he_182) <| jl 3 rfl (ji 4 (v := .slice e2 w'.length f2) rfl rfl ko rfl) ?_
    refine jK 4 rfl (jC (v := nv j) he_185) ?_
    obtain ⟨hr_187, hr_187b, -⟩ := sees_some hs_e2 (by omega)
    refine jK 5 rfl (kH (i := j) kW ka hr_187 hr_187b rfl rfl (by omega)) <| jl 6 rfl (LO.loadS1 (v := str (w'.getD j [])) hs_e2 nM rfl kZ (atS (by omega))) <| jL (i := 7) ?_
    refine jO rfl rfl (jI [] Tryz.call116 rfl (C_sAddSpan x2 y2 E (w'.getD j []) (by omega)) rfl (fun w hw => hw.see (i := 2) rfl)) ?_
    rintro _ _ ⟨_, ⟨a_190, c_191, rfl, rfl⟩, rfl⟩
    refine ⟨by simp, ?_⟩
    refine jK 8 rfl (jZ fo33_1 he_184) <| jL (i := 9) ?_
    refine jp rfl (jc 1 (vs := [.slice a_190 ((addSpan E (w'.getD j [])).length) c_191]) (cs' := [.slice x1 D.length y1, .slice a_190 ((addSpan E (w'.getD j [])).length) c_191]) rfl rfl rfl rfl Tryz.sizeOf23 rfl rfl (lb rfl) rfl) ?_
    rintro _ _ rfl
    refine jk <| jB <| jF <| jA (jC (v := nv j) he_185) <| jA (jg (c := ((j + 1 : Nat) : Int)) rfl rfl (wr (by omega))) <| jA (jG (v := iv ((j + 1 : Nat) : Int)) rfl) <| jE <| jr [1, 1, 0, 1, 1] (A := [bk q 33 [.slice x1 D.length y1, .slice a_190 ((addSpan E (w'.getD j [])).length) c_191], Res.row (.slice x1 D.length y1) 9 1 D.length (D.map str), Res.row (.slice a_190 ((addSpan E (w'.getD j [])).length) c_191) 9 1 ((addSpan E (w'.getD j [])).length) ((addSpan E (w'.getD j [])).map str), bk b_3 33 [.slice none 0 0, .slice none 0 0], bk b_2 33 [.slice e1 r'.length f1, .slice e2 w'.length f2]]) rfl ?_
    refine jt (w'.length - (j + 1)) (by omega) ⟨j + 1, (addSpan E (w'.getD j [])), a_190, c_191, by omega, (by rw [take_at (getD_some (d := []) hlt), List.foldl_append, ← hD]; rfl), (by have := addSpan_len E (w'.getD j []); omega), he_182, he_183, he_184, rfl, rfl, rfl⟩
  rw [List.take_of_length_le (by omega)] at hD
  have hDw := hD
  have hlw := hl
  refine jQ (cB (dF h_186)) <| kB <| jn <| jn <| kC <| jB <| jD <| jF <| jT (jf 0 (vs := [.slice x1 D.length y1, .slice x2 E.length y2]) rfl he_184 Tryz.isAgg33 kl rfl rfl) ?_
  refine jH rfl (jc 3 (vs := [.slice x1 D.length y1, .slice x2 E.length y2]) (cs' := [.slice x1 D.length y1, .slice x2 E.length y2]) rfl he_183 rfl rfl kl rfl rfl (lb rfl) rfl) ?_
  rintro _ _ rfl
  refine jE <| jB <| jM <| kL (pick_perm [1, 1] (A := [Res.row (.slice x1 D.length y1) 9 1 D.length (D.map str), Res.row (.slice x2 E.length y2) 9 1 E.length (E.map str)]) (F := [bk q 33 [.slice x1 D.length y1, .slice x2 E.length y2], bk b_3 33 [.slice x1 D.length y1, .slice x2 E.length y2], bk b_2 33 [.slice e1 r'.length f1, .slice e2 w'.length f2]]) rfl).symm <| jV (.inl rfl) rfl (je (jf 3 (vs := [.slice x1 D.length y1, .slice x2 E.length y2]) rfl he_183 Tryz.isAgg33 kl rfl rfl) ⟨_, he_183⟩) (tS 2 _) ?_
  subst hDr
  subst hDw
  exact ⟨_, _, _, _, rfl, rfl⟩

theorem C_copy (a0 a1 a2 : Option Addr) (c0_ c1 c2 : Nat) (m : MS) (h0 : m.s.length ≤ 1000000000) (h1 : m.r.length ≤ 1000000000) (h2 : m.w.length ≤ 1000000000) :
    Ct Tryz.prog 17 [.agg #[.slice a0 m.s.length c0_, .slice a1 m.r.length c1, .slice a2 m.w.length c2]] [] (fun w_ => Sees w_ (.slice a0 m.s.length c0_) 2 m.s.length (m.s.flatMap encC) ∧ Sees w_ (.slice a1 m.r.length c1) 1 m.r.length (m.r.map str) ∧ Sees w_ (.slice a2 m.w.length c2) 1 m.w.length (m.w.map str)) (fun v A' => ∃ x0 y0 x1 y1 x2 y2, v = .agg #[.slice x0 m.s.length y0, .slice x1 m.r.length y1, .slice x2 m.w.length y2] ∧ A' = [Res.row (.slice x0 m.s.length y0) 80 2 m.s.length (m.s.flatMap encC), Res.row (.slice x1 m.r.length y1) 9 1 m.r.length (m.r.map str), Res.row (.slice x2 m.w.length y2) 9 1 m.w.length (m.w.map str)]) := by
  refine Ct.intro Tryz.func17 rfl Tryz.ntmps17 (lb rfl) fun w0 hpre => ?_
  have hs_a0 : Sees w0 _ _ _ _ := hpre.1
  have hs_a1 : Sees w0 _ _ _ _ := hpre.2.1
  have hs_a2 : Sees w0 _ _ _ _ := hpre.2.2
  refine jD <| jF ?_
  refine jH rfl (jv (cs := [.slice a0 m.s.length c0_, .slice a1 m.r.length c1, .slice a2 m.w.length c2]) rfl rfl) ?_
  rintro _ _ ⟨b_1, rfl, rfl⟩
  refine jH rfl (jh (z := zM) (cs := zC) kd rfl) ?_
  rintro _ _ ⟨b_2, rfl, rfl⟩
  refine jE <| jB <| jD <| jq [bk b_2 35 zC, bk b_1 35 [.slice a0 m.s.length c0_, .slice a1 m.r.length c1, .slice a2 m.w.length c2]] 9 mixed (by simp) <| jK 1 rfl (jZ fo35_0 rfl) <| jl 2 rfl (ji 1 (v := .slice a0 m.s.length c0_) rfl rfl gA rfl) <| jK 4 rfl (jZ fo35_1 rfl) <| jl 5 rfl (jf 1 (vs := [.slice a1 m.r.length c1, .slice a2 m.w.length c2]) rfl rfl Tryz.isAgg33 kl rfl rfl) <| jK 6 rfl (kP (ps := []) (cs := [.slice none 0 0, .slice none 0 0]) rfl (by kernel_rfl)) <| jL (i := 0) ?_
  refine jO rfl rfl (kI (ps := []) (cur := #[]) kc ke kt rfl (by kernel_rfl) (by decide) (by decide)) ?_
  rintro _ _ ⟨a_9, rfl, rfl⟩
  refine ⟨by simp, ?_⟩
  refine jL (i := 3) ?_
  refine jO rfl rfl (kF 0 (q := m.s.length) (news := m.s.flatMap encC) (n' := m.s.length) (cs' := m.s.flatMap encC) rfl kc kc ky rfl (by' := 32) rfl rfl rfl rfl rfl (fun w hw => Src.sees (hw.seeOut_ hs_a0 nM) (oneC _)) (by (try simp only [LE]); omega) (by (try simp only [LE]); omega) (by (try simp only [List.length_take, List.length_drop]); first | rfl | omega) rfl) ?_
  rintro _ _ ⟨a_12, c_13, rfl, rfl⟩
  refine ⟨by simp, ?_⟩
  refine jL (i := 7) ?_
  refine jO rfl rfl (jI [] Tryz.call49 rfl (C_joinTouch a1 a2 none none c1 c2 0 0 m.r m.w [] [] (by omega) (by omega) (by (try simp only [List.length_nil]); omega) (by (try simp only [List.length_nil]); omega)) rfl (fun w hw => ⟨hw.seeOut_ hs_a1 nM, hw.seeOut_ hs_a2 nM, sees_nil _, sees_nil _⟩)) ?_
  rintro _ _ ⟨_, ⟨a_18, c_19, a_20, c_21, rfl, rfl⟩, rfl⟩
  refine ⟨by simp, ?_⟩
  refine jK 8 rfl (kP (ps := [(0, .slice a_12 m.s.length c_13), (1, .agg #[.slice a_18 m.r.length c_19, .slice a_20 m.w.length c_21])]) (cs := [.slice a_12 m.s.length c_13, .slice a_18 m.r.length c_19, .slice a_20 m.w.length c_21]) rfl (by kernel_rfl)) <| jL (i := 9) ?_
  refine jp rfl (jc 3 (vs := [.slice a_12 m.s.length c_13, .slice a_18 m.r.length c_19, .slice a_20 m.w.length c_21]) (cs' := [.slice a_12 m.s.length c_13, .slice a_18 m.r.length c_19, .slice a_20 m.w.length c_21]) rfl rfl rfl rfl kp rfl rfl (lb rfl) rfl) ?_
  rintro _ _ rfl
  refine jB <| jM <| kL (pick_perm [2, 0, 0] (A := [Res.row (.slice a_12 m.s.length c_13) 80 2 m.s.length (m.s.flatMap encC), Res.row (.slice a_18 m.r.length c_19) 9 1 m.r.length (m.r.map str), Res.row (.slice a_20 m.w.length c_21) 9 1 m.w.length (m.w.map str)]) (F := [bk b_2 35 [.slice a_12 m.s.length c_13, .slice a_18 m.r.length c_19, .slice a_20 m.w.length c_21], bk b_1 35 [.slice a0 m.s.length c0_, .slice a1 m.r.length c1, .slice a2 m.w.length c2]]) rfl).symm <| jV (.inl rfl) rfl (je (jf 3 (vs := [.slice a_12 m.s.length c_13, .slice a_18 m.r.length c_19, .slice a_20 m.w.length c_21]) rfl rfl ku kp rfl rfl) ⟨_, rfl⟩) (tS 3 _) ?_
  exact ⟨_, _, _, _, _, _, rfl, rfl⟩

theorem C_sLook (a0 a1 a2 : Option Addr) (c0_ c1 c2 : Nat) (m : MS) (key : Str) (h0 : m.s.length ≤ 5000000000) (h1 : m.r.length ≤ 5000000000) (h2 : m.w.length ≤ 5000000000) :
    Ct Tryz.prog 102 [.agg #[.slice a0 m.s.length c0_, .slice a1 m.r.length c1, .slice a2 m.w.length c2], str key] [Res.row (.slice a0 m.s.length c0_) 80 2 m.s.length (m.s.flatMap encC), Res.row (.slice a1 m.r.length c1) 9 1 m.r.length (m.r.map str), Res.row (.slice a2 m.w.length c2) 9 1 m.w.length (m.w.map str)] (fun _ => True) (fun v A' => ∃ x0 y0 x1 y1 x2 y2, v = .tuple #[.agg #[.slice x0 (((m.look key).1).s.length) y0, .slice x1 (((m.look key).1).r.length) y1, .slice x2 (((m.look key).1).w.length) y2], str (m.look key).2] ∧ A' = [Res.row (.slice x0 (((m.look key).1).s.length) y0) 80 2 ((((m.look key).1).s).length) ((((m.look key).1).s).flatMap encC), Res.row (.slice x1 (((m.look key).1).r.length) y1) 9 1 ((((m.look key).1).r).length) ((((m.look key).1).r).map str), Res.row (.slice x2 (((m.look key).1).w.length) y2) 9 1 ((((m.look key).1).w).length) ((((m.look key).1).w).map str)]) := by
  refine Ct.intro Tryz.func102 rfl Tryz.ntmps102 (lb rfl) fun w0 hpre => ?_
  refine jD <| jF ?_
  refine jH rfl (jv (cs := [.slice a0 m.s.length c0_, .slice a1 m.r.length c1, .slice a2 m.w.length c2]) rfl rfl) ?_
  rintro _ _ ⟨b_1, rfl, rfl⟩
  refine jH rfl (jh (z := zM) (cs := zC) kd rfl) ?_
  rintro _ _ ⟨b_2, rfl, rfl⟩
  refine jA (jG (v := str []) rfl) <| jE <| jB <| jD <| jF <| jA (jZ fo35_1 rfl) <| jA (jZ fo33_0 rfl) <| jT (ji 1 (v := .slice a1 m.r.length c1) rfl rfl ko rfl) <| jA (jC (v := str key) rfl) ?_
  refine jH rfl (jI [] Tryz.call116 rfl (C_sAddSpan a1 c1 m.r key (by omega)) rfl (fun w hw => hw.see (i := 3) rfl)) ?_
  rintro _ _ ⟨_, ⟨a_3, c_4, rfl, rfl⟩, rfl⟩
  refine jA (jZ fo35_1 rfl) <| jA (jZ fo33_0 rfl) ?_
  refine jH rfl (jc 2 (vs := [.slice a_3 ((addSpan m.r key).length) c_4]) (cs' := [.slice a0 m.s.length c0_, .slice a_3 ((addSpan m.r key).length) c_4, .slice a2 m.w.length c2]) rfl rfl rfl rfl Tryz.sizeOf23 rfl rfl (lb rfl) rfl) ?_
  rintro _ _ rfl
  refine jE <| jB <| jD <| jq [Res.row (.slice a_3 ((addSpan m.r key).length) c_4) 9 1 ((addSpan m.r key).length) ((addSpan m.r key).map str), bk b_1 35 [.slice a0 m.s.length c0_, .slice a_3 ((addSpan m.r key).length) c_4, .slice a2 m.w.length c2], Res.row (.slice a0 m.s.length c0_) 80 2 m.s.length (m.s.flatMap encC), Res.row (.slice a1 m.r.length c1) 9 1 m.r.length (m.r.map str), Res.row (.slice a2 m.w.length c2) 9 1 m.w.length (m.w.map str)] 6 mixed (by simp) <| jl 0 rfl (jf 1 (vs := [.slice a0 m.s.length c0_, .slice a_3 ((addSpan m.r key).length) c_4, .slice a2 m.w.length c2]) rfl rfl ku kp rfl rfl) <| jK 1 rfl (jZ fo35_0 rfl) <| jl 2 rfl (ji 1 (v := .slice a0 m.s.length c0_) rfl rfl gA rfl) <| jK 3 rfl (jC (v := str key) rfl) <| jL (i := 4) ?_
  refine jO rfl rfl (jI [] Tryz.call151 rfl (C_sGetKey a0 c0_ m.s key (by omega)) rfl (fun w hw => hw.see (i := 3) rfl)) ?_
  rintro _ _ ⟨_, ⟨rfl, rfl⟩, rfl⟩
  refine ⟨by simp, ?_⟩
  refine jL (i := 5) ?_
  refine jO rfl rfl (jc 1 (vs := [.slice a0 m.s.length c0_, .slice a_3 ((addSpan m.r key).length) c_4, .slice a2 m.w.length c2]) (cs' := [.slice a0 m.s.length c0_, .slice a_3 ((addSpan m.r key).length) c_4, .slice a2 m.w.length c2]) rfl rfl rfl rfl kp rfl rfl (lb rfl) rfl) ?_
  rintro _ _ rfl
  refine ⟨by simp, ?_⟩
  refine jK 6 rfl (jG (v := str (getKey m.s key)) rfl) <| kG (by kernel_rfl) <| jB <| jM <| kL (pick_perm [3, 0, 3] (A := [Res.row (.slice a0 m.s.length c0_) 80 2 m.s.length (m.s.flatMap encC), Res.row (.slice a_3 ((addSpan m.r key).length) c_4) 9 1 ((addSpan m.r key).length) ((addSpan m.r key).map str), Res.row (.slice a2 m.w.length c2) 9 1 m.w.length (m.w.map str)]) (F := [bk b_2 35 [.slice a0 m.s.length c0_, .slice a_3 ((addSpan m.r key).length) c_4, .slice a2 m.w.length c2], bk b_1 35 [.slice a0 m.s.length c0_, .slice a_3 ((addSpan m.r key).length) c_4, .slice a2 m.w.length c2], Res.row (.slice a1 m.r.length c1) 9 1 m.r.length (m.r.map str)]) rfl).symm <| jj (.inl rfl) rfl (je (jf 3 (vs := [.slice a0 m.s.length c0_, .slice a_3 ((addSpan m.r key).length) c_4, .slice a2 m.w.length c2]) rfl rfl ku kp rfl rfl) ⟨_, rfl⟩) (jN (v := str (getKey m.s key)) rfl) (tS 3 _) ?_
  exact ⟨_, _, _, _, _, _, rfl, rfl⟩

theorem C_sLay (a0 a1 a2 : Option Addr) (c0_ c1 c2 : Nat) (m : MS) (key val : Str) (h0 : m.s.length ≤ 5000000000) (h1 : m.r.length ≤ 5000000000) (h2 : m.w.length ≤ 5000000000) (hk : key.length ≤ 1000000000000) :
    Ct Tryz.prog 92 [.agg #[.slice a0 m.s.length c0_, .slice a1 m.r.length c1, .slice a2 m.w.length c2], str key, str val] [Res.row (.slice a0 m.s.length c0_) 80 2 m.s.length (m.s.flatMap encC), Res.row (.slice a1 m.r.length c1) 9 1 m.r.length (m.r.map str), Res.row (.slice a2 m.w.length c2) 9 1 m.w.length (m.w.map str)] (fun _ => True) (fun v A' => ∃ x0 y0 x1 y1 x2 y2, v = .agg #[.slice x0 ((m.lay key val).s.length) y0, .slice x1 ((m.lay key val).r.length) y1, .slice x2 ((m.lay key val).w.length) y2] ∧ A' = [Res.row (.slice x0 ((m.lay key val).s.length) y0) 80 2 (((m.lay key val).s).length) (((m.lay key val).s).flatMap encC), Res.row (.slice x1 ((m.lay key val).r.length) y1) 9 1 (((m.lay key val).r).length) (((m.lay key val).r).map str), Res.row (.slice x2 ((m.lay key val).w.length) y2) 9 1 (((m.lay key val).w).length) (((m.lay key val).w).map str)]) := by
  refine Ct.intro Tryz.func92 rfl Tryz.ntmps92 (lb rfl) fun w0 hpre => ?_
  refine jD <| jF ?_
  refine jH rfl (jv (cs := [.slice a0 m.s.length c0_, .slice a1 m.r.length c1, .slice a2 m.w.length c2]) rfl rfl) ?_
  rintro _ _ ⟨b_1, rfl, rfl⟩
  refine jH rfl (jh (z := zM) (cs := zC) kd rfl) ?_
  rintro _ _ ⟨b_2, rfl, rfl⟩
  refine jE <| jB <| jD <| jF <| jA (jZ fo35_1 rfl) <| jA (jZ fo33_1 rfl) <| jT (ji 1 (v := .slice a2 m.w.length c2) rfl rfl ko rfl) <| jA (jC (v := str key) rfl) ?_
  refine jH rfl (jI [] Tryz.call116 rfl (C_sAddSpan a2 c2 m.w key (by omega)) rfl (fun w hw => hw.see (i := 4) rfl)) ?_
  rintro _ _ ⟨_, ⟨a_3, c_4, rfl, rfl⟩, rfl⟩
  refine jA (jZ fo35_1 rfl) <| jA (jZ fo33_1 rfl) ?_
  refine jH rfl (jc 2 (vs := [.slice a_3 ((addSpan m.w key).length) c_4]) (cs' := [.slice a0 m.s.length c0_, .slice a1 m.r.length c1, .slice a_3 ((addSpan m.w key).length) c_4]) rfl rfl rfl rfl Tryz.sizeOf23 rfl rfl (lb rfl) rfl) ?_
  rintro _ _ rfl
  refine jE <| jB <| jD <| jF <| jA (jZ fo35_0 rfl) <| jT (ji 2 (v := .slice a0 m.s.length c0_) rfl rfl gA rfl) <| jA (jC (v := str key) rfl) <| jA (jC (v := str val) rfl) ?_
  refine jH rfl (jI [] Tryz.call144 rfl (C_sPutKey a0 c0_ m.s key val (by omega) (by omega)) rfl (fun w hw => hw.see (i := 3) rfl)) ?_
  rintro _ _ ⟨_, ⟨a_5, c_6, rfl, rfl⟩, rfl⟩
  refine jA (jZ fo35_0 rfl) ?_
  refine jH rfl (jc 3 (vs := [.slice a_5 ((putKey m.s key val).length) c_6]) (cs' := [.slice a_5 ((putKey m.s key val).length) c_6, .slice a1 m.r.length c1, .slice a_3 ((addSpan m.w key).length) c_4]) rfl rfl rfl rfl Tryz.sizeOf32 rfl rfl (lb rfl) rfl) ?_
  rintro _ _ rfl
  refine jE <| jB <| jD <| jF <| jT (jf 3 (vs := [.slice a_5 ((putKey m.s key val).length) c_6, .slice a1 m.r.length c1, .slice a_3 ((addSpan m.w key).length) c_4]) rfl rfl ku kp rfl rfl) ?_
  refine jH rfl (jc 2 (vs := [.slice a_5 ((putKey m.s key val).length) c_6, .slice a1 m.r.length c1, .slice a_3 ((addSpan m.w key).length) c_4]) (cs' := [.slice a_5 ((putKey m.s key val).length) c_6, .slice a1 m.r.length c1, .slice a_3 ((addSpan m.w key).length) c_4]) rfl rfl rfl rfl kp rfl rfl (lb rfl) rfl) ?_
  rintro _ _ rfl
  refine jE <| jB <| jM <| kL (pick_perm [0, 4, 0] (A := [Res.row (.slice a_5 ((putKey m.s key val).length) c_6) 80 2 ((putKey m.s key val).length) ((putKey m.s key val).flatMap encC), Res.row (.slice a1 m.r.length c1) 9 1 m.r.length (m.r.map str), Res.row (.slice a_3 ((addSpan m.w key).length) c_4) 9 1 ((addSpan m.w key).length) ((addSpan m.w key).map str)]) (F := [bk b_2 35 [.slice a_5 ((putKey m.s key val).length) c_6, .slice a1 m.r.length c1, .slice a_3 ((addSpan m.w key).length) c_4], bk b_1 35 [.slice a_5 ((putKey m.s key val).length) c_6, .slice a1 m.r.length c1, .slice a_3 ((addSpan m.w key).length) c_4], Res.row (.slice a0 m.s.length c0_) 80 2 m.s.length (m.s.flatMap encC), Res.row (.slice a2 m.w.length c2) 9 1 m.w.length (m.w.map str)]) rfl).symm <| jV (.inl rfl) rfl (je (jf 3 (vs := [.slice a_5 ((putKey m.s key val).length) c_6, .slice a1 m.r.length c1, .slice a_3 ((addSpan m.w key).length) c_4]) rfl rfl ku kp rfl rfl) ⟨_, rfl⟩) (tS 3 _) ?_
  exact ⟨_, _, _, _, _, _, rfl, rfl⟩

theorem C_sBump (a0 a1 a2 : Option Addr) (c0_ c1 c2 : Nat) (m : MS) (key : Str) (h0 : m.s.length ≤ 2000000000) (h1 : m.r.length ≤ 2000000000) (h2 : m.w.length ≤ 2000000000) (hv : (getKey m.s key).length ≤ 281474976710656) (hk : key.length ≤ 1000000000000) :
    Ct Tryz.prog 89 [.agg #[.slice a0 m.s.length c0_, .slice a1 m.r.length c1, .slice a2 m.w.length c2], str key] [Res.row (.slice a0 m.s.length c0_) 80 2 m.s.length (m.s.flatMap encC), Res.row (.slice a1 m.r.length c1) 9 1 m.r.length (m.r.map str), Res.row (.slice a2 m.w.length c2) 9 1 m.w.length (m.w.map str)] (fun _ => True) (fun v A' => ∃ x0 y0 x1 y1 x2 y2, v = .tuple #[.agg #[.slice x0 (((m.bump key).1).s.length) y0, .slice x1 (((m.bump key).1).r.length) y1, .slice x2 (((m.bump key).1).w.length) y2], .int .i64 (m.bump key).2] ∧ A' = [Res.row (.slice x0 (((m.bump key).1).s.length) y0) 80 2 ((((m.bump key).1).s).length) ((((m.bump key).1).s).flatMap encC), Res.row (.slice x1 (((m.bump key).1).r.length) y1) 9 1 ((((m.bump key).1).r).length) ((((m.bump key).1).r).map str), Res.row (.slice x2 (((m.bump key).1).w.length) y2) 9 1 ((((m.bump key).1).w).length) ((((m.bump key).1).w).map str)]) := by
  refine Ct.intro Tryz.func89 rfl Tryz.ntmps89 (lb rfl) fun w0 hpre => ?_
  refine jD <| jF ?_
  refine jH rfl (jv (cs := [.slice a0 m.s.length c0_, .slice a1 m.r.length c1, .slice a2 m.w.length c2]) rfl rfl) ?_
  rintro _ _ ⟨b_1, rfl, rfl⟩
  refine jH rfl (jh (z := zM) (cs := zC) kd rfl) ?_
  rintro _ _ ⟨b_2, rfl, rfl⟩
  refine jA (jG (v := iv 0) rfl) <| jE <| jB <| jD <| jF <| jT (jf 1 (vs := [.slice a0 m.s.length c0_, .slice a1 m.r.length c1, .slice a2 m.w.length c2]) rfl rfl ku kp rfl rfl) <| jA (jC (v := str key) rfl) ?_
  refine jH rfl (jI [2, 2, 2] Tryz.call102 rfl (C_sLook a0 a1 a2 c0_ c1 c2 m key (by omega) (by omega) (by omega)) rfl (fun _ _ => trivial)) ?_
  rintro _ _ ⟨_, ⟨a_3, c_4, a_5, c_6, a_7, c_8, rfl, rfl⟩, rfl⟩
  have hlk8 := look_len m key
  refine jA (jC (v := .tuple #[.agg #[.slice a_3 (((MS.look m key).1).s.length) c_4, .slice a_5 (((MS.look m key).1).r.length) c_6, .slice a_7 (((MS.look m key).1).w.length) c_8], str ((MS.look m key).2)]) rfl) <| jA (jS (v := .agg #[.slice a_3 (((MS.look m key).1).s.length) c_4, .slice a_5 (((MS.look m key).1).r.length) c_6, .slice a_7 (((MS.look m key).1).w.length) c_8]) rfl rfl) <| jA (jS (v := str ((MS.look m key).2)) rfl rfl) ?_
  refine jH rfl (jc 4 (vs := [.slice a_3 (((MS.look m key).1).s.length) c_4, .slice a_5 (((MS.look m key).1).r.length) c_6, .slice a_7 (((MS.look m key).1).w.length) c_8]) (cs' := [.slice a_3 (((MS.look m key).1).s.length) c_4, .slice a_5 (((MS.look m key).1).r.length) c_6, .slice a_7 (((MS.look m key).1).w.length) c_8]) rfl rfl rfl rfl kp rfl rfl (lb rfl) rfl) ?_
  rintro _ _ rfl
  refine jA (jG (v := str ((MS.look m key).2)) rfl) <| jE <| jB <| jD <| jF <| jA (jC (v := str ((MS.look m key).2)) rfl) ?_
  refine jH rfl (jI [] Tryz.call107 rfl (C_sNumOf ((MS.look m key).2) hv) rfl (fun _ _ => trivial)) ?_
  rintro _ _ ⟨_, ⟨rfl, rfl⟩, rfl⟩
  have hno8 := numOf_lo ((MS.look m key).2)
  refine jA (jg (c := (numOf ((MS.look m key).2)) + 1) rfl rfl (wr (by omega))) <| jA (jG (v := iv ((numOf ((MS.look m key).2)) + 1)) rfl) <| jE <| jB <| jD <| jD <| jF <| jA (jC (v := iv ((numOf ((MS.look m key).2)) + 1)) rfl) <| jA (kS rfl rfl) <| jE ?_
  refine jB ?_
  by_cases h_9 : 999 < ((numOf ((MS.look m key).2)) + 1)
  · refine jR (cB (dT h_9)) <| jD <| jF <| jT (jf 4 (vs := [.slice a_3 (((MS.look m key).1).s.length) c_4, .slice a_5 (((MS.look m key).1).r.length) c_6, .slice a_7 (((MS.look m key).1).w.length) c_8]) rfl rfl ku kp rfl rfl) ?_
    refine jH rfl (jc 3 (vs := [.slice a_3 (((MS.look m key).1).s.length) c_4, .slice a_5 (((MS.look m key).1).r.length) c_6, .slice a_7 (((MS.look m key).1).w.length) c_8]) (cs' := [.slice a_3 (((MS.look m key).1).s.length) c_4, .slice a_5 (((MS.look m key).1).r.length) c_6, .slice a_7 (((MS.look m key).1).w.length) c_8]) rfl rfl rfl rfl kp rfl rfl (lb rfl) rfl) ?_
    rintro _ _ rfl
    refine jA (jG (v := iv 0) rfl) <| jE <| jB <| jM <| jX <| jj (.inl rfl) rfl (je (jf 3 (vs := [.slice a_3 (((MS.look m key).1).s.length) c_4, .slice a_5 (((MS.look m key).1).r.length) c_6, .slice a_7 (((MS.look m key).1).w.length) c_8]) rfl rfl ku kp rfl rfl) ⟨_, rfl⟩) (jN (v := iv 0) rfl) (tS 3 _) ?_
    have hq : (m.num key).2 = numOf (m.look key).2 := rfl
    have hb : m.bump key = ((m.num key).1, 0) := by unfold MS.bump; rw [if_pos (by omega)]
    rw [hb]
    exact ⟨_, _, _, _, _, _, rfl, rfl⟩
  refine jQ (cB (dF h_9)) <| jU <| jB <| jD <| jq [bk b_1 35 [.slice a_3 (((MS.look m key).1).s.length) c_4, .slice a_5 (((MS.look m key).1).r.length) c_6, .slice a_7 (((MS.look m key).1).w.length) c_8]] 6 mixed (by simp) <| jl 0 rfl (jf 0 (vs := [.slice a_3 (((MS.look m key).1).s.length) c_4, .slice a_5 (((MS.look m key).1).r.length) c_6, .slice a_7 (((MS.look m key).1).w.length) c_8]) rfl rfl ku kp rfl rfl) <| jK 1 rfl (jC (v := str key) rfl) <| jK 2 rfl (jC (v := iv ((numOf ((MS.look m key).2)) + 1)) rfl) <| jK 5 rfl (jC (v := iv ((numOf ((MS.look m key).2)) + 1)) rfl) <| jL (i := 3) ?_
  refine jO rfl rfl (jI [] Tryz.call115 rfl (C_sDec ((numOf ((MS.look m key).2)) + 1) (by omega) (by omega)) rfl (fun _ _ => trivial)) ?_
  rintro _ _ ⟨_, ⟨rfl, rfl⟩, rfl⟩
  refine ⟨by simp, ?_⟩
  refine jL (i := 4) ?_
  refine jO rfl rfl (jI [0, 0, 0] Tryz.call92 rfl (C_sLay a_3 a_5 a_7 c_4 c_6 c_8 ((MS.look m key).1) key (dec ((numOf ((MS.look m key).2)) + 1)) (by omega) (by omega) (by omega) (by omega)) rfl (fun _ _ => trivial)) ?_
  rintro _ _ ⟨_, ⟨a_16, c_17, a_18, c_19, a_20, c_21, rfl, rfl⟩, rfl⟩
  have hly21 := lay_len ((MS.look m key).1) key (dec ((numOf ((MS.look m key).2)) + 1))
  refine ⟨by simp, ?_⟩
  refine jL (i := 6) ?_
  refine jo rfl (jc 3 (vs := [.slice a_16 ((MS.lay ((MS.look m key).1) key (dec ((numOf ((MS.look m key).2)) + 1))).s.length) c_17, .slice a_18 ((MS.lay ((MS.look m key).1) key (dec ((numOf ((MS.look m key).2)) + 1))).r.length) c_19, .slice a_20 ((MS.lay ((MS.look m key).1) key (dec ((numOf ((MS.look m key).2)) + 1))).w.length) c_21]) (cs' := [.slice a_16 ((MS.lay ((MS.look m key).1) key (dec ((numOf ((MS.look m key).2)) + 1))).s.length) c_17, .slice a_18 ((MS.lay ((MS.look m key).1) key (dec ((numOf ((MS.look m key).2)) + 1))).r.length) c_19, .slice a_20 ((MS.lay ((MS.look m key).1) key (dec ((numOf ((MS.look m key).2)) + 1))).w.length) c_21]) rfl rfl rfl rfl kp rfl rfl (lb rfl) rfl) ?_
  rintro _ _ rfl
  refine jK 7 rfl (jG (v := iv ((numOf ((MS.look m key).2)) + 1)) rfl) <| kG (by kernel_rfl) <| jB <| jM <| jj (.inl rfl) rfl (je (jf 3 (vs := [.slice a_16 ((MS.lay ((MS.look m key).1) key (dec ((numOf ((MS.look m key).2)) + 1))).s.length) c_17, .slice a_18 ((MS.lay ((MS.look m key).1) key (dec ((numOf ((MS.look m key).2)) + 1))).r.length) c_19, .slice a_20 ((MS.lay ((MS.look m key).1) key (dec ((numOf ((MS.look m key).2)) + 1))).w.length) c_21]) rfl rfl ku kp rfl rfl) ⟨_, rfl⟩) (jN (v := iv ((numOf ((MS.look m key).2)) + 1)) rfl) (tS 3 _) ?_
  have hq : (m.num key).2 = numOf (m.look key).2 := rfl
  have hb : m.bump key = ((m.look key).1.lay key (dec (numOf (m.look key).2 + 1)), numOf (m.look key).2 + 1) := by unfold MS.bump; rw [if_neg (by omega)]; unfold MS.setNum; rw [if_pos (by omega)]; rfl
  rw [hb]
  exact ⟨_, _, _, _, _, _, rfl, rfl⟩

end Go.Proofs.YthdgcbdfcclgbaaGreatDoor
