/-
  Texts of the walk, joined: what each one proves stands at its theorems.
-/
import Derived.Test.YtkmpmjficoohkaaGreatDoorFlat
import Derived.Test.YtkmpmjficoohkaaGreatDoorSc
import Derived.Test.YtkmpmjficoohkaaGreatDoorDatX
set_option linter.unusedSimpArgs false
set_option linter.unusedVariables false
set_option linter.unnecessarySimpa false
namespace Go.Proofs.YtkmpmjficoohkaaGreatDoor
open Go Go.RowKit
attribute [local irreducible] JL JC JQ JO LO PO JA JX Ct

theorem C_within (n lo hi : Int) :
    Ct Tryz.prog 70 [.int .i64 n, .int .i64 lo, .int .i64 hi] [] (fun _ => True) (fun v A' => v = .bool (decide (lo ≤ n) && decide (n ≤ hi)) ∧ A' = []) := by
  refine Ct.intro Tryz.func70 rfl Tryz.ntmps70 (lb rfl) fun w0 hpre => ?_
  refine jC <| jF <| jA (jG (v := .bool false) rfl) <| jE <| jB <| jC <| jF <| jA (jD (v := iv n) rfl) <| jA (jD (v := iv lo) rfl) <| jA (PO.geq rfl rfl) ?_
  refine jA (jD (v := .bool (decide (lo ≤ n))) rfl) ?_
  by_cases h_1 : lo ≤ n
  · refine jd rfl rfl rfl (cB (dT h_1)) (jg (jj (jD (v := iv n) rfl))) ?_
    rintro _ _ ⟨rfl, rfl⟩
    refine jd rfl rfl rfl (cB (dT h_1)) (jg (jj (jD (v := iv hi) rfl))) ?_
    rintro _ _ ⟨rfl, rfl⟩
    refine jd rfl rfl rfl (cB (dT h_1)) (jg (jj (PO.leq rfl rfl))) ?_
    rintro _ _ ⟨rfl, rfl⟩
    refine jA (PO.pickT (v := .bool (decide (n ≤ hi))) (cB (dT h_1)) rfl) <| jA (jG (v := .bool (decide (n ≤ hi))) rfl) <| jE <| jB <| jK <| jN (.inl rfl) rfl (jJ (v := .bool (decide (n ≤ hi))) rfl) (List.nil_sublist _) ?_
    refine ⟨?_, rfl⟩
    simp_all <;> omega
  refine ja (b := false) rfl rfl rfl (cB (dF h_1)) <| ja (b := false) rfl rfl rfl (cB (dF h_1)) <| ja (b := false) rfl rfl rfl (cB (dF h_1)) <| jA (PO.pickF (v := .bool false) (cB (dF h_1)) rfl) <| jA (jG (v := .bool false) rfl) <| jE <| jB <| jK <| jN (.inl rfl) rfl (jJ (v := .bool false) rfl) (List.nil_sublist _) ?_
  refine ⟨?_, rfl⟩
  simp_all <;> omega

theorem C_keyOk (key : Str) (hk : key.length ≤ 1000000000000) :
    Ct Tryz.prog 95 [str key] [] (fun _ => True) (fun v A' => v = .bool (keyOk key) ∧ A' = []) := by
  refine Ct.intro Tryz.func95 rfl Tryz.ntmps95 (lb rfl) fun w0 hpre => ?_
  refine jC <| jF <| jA (jG (v := .bool false) rfl) <| jE <| jB <| jC <| jC <| jF <| jA (jD (v := str key) rfl) <| jA (PO.lenS kN rfl) ?_
  refine jA (jD (v := iv 0) rfl) <| jE <| jB <| jZ <| jo (fun k_ e_ L_ => ∃ j : Nat, (j ≤ key.length) ∧ (∀ i, i < j → i < key.length → keyByte (key.getD i 0) = true) ∧ e_ 0 = str key ∧ e_ 5 = iv (key.length : Int) ∧ e_ 6 = nv j ∧ L_ = [] ∧ k_ = key.length - j) _ ⟨0, by omega, (fun i hi => absurd hi (Nat.not_lt_zero i)), rfl, rfl, rfl, rfl, rfl⟩ ?_
  rintro _ e_1 _ ⟨j, hj, hN, he_2, he_3, he_4, rfl, rfl⟩
  refine jC <| jF <| jA (jb he_4 he_3) <| jE <| jB <| jC ?_
  by_cases h_5 : ((j : Nat) : Int) < (key.length : Int)
  · refine jQ (cB (dT h_5)) <| jM <| jB <| jC <| jZ <| jC <| jF <| jA (jD (v := nv j) he_4) <| jA (jG (v := nv j) rfl) <| jE ?_
    refine jB <| jC <| jF <| jA (jD (v := str key) he_2) <| jA (jD (v := nv j) rfl) <| jA (PO.indexS (i := j) (c := key.getD j 0) kN rfl rfl (getD_some (by omega))) ?_
    have hu_6 := UInt8.toNat_lt (key.getD j 0)
    refine jA (jb rfl rfl) <| jA (jD (v := .bool (decide (((key.getD j 0).toNat : Int) < 33))) rfl) ?_
    by_cases h_7 : ((key.getD j 0).toNat : Int) < 33
    · refine ja (b := true) rfl rfl rfl (cB (dT h_7)) <| ja (b := true) rfl rfl rfl (cB (dT h_7)) <| ja (b := true) rfl rfl rfl (cB (dT h_7)) <| ja (b := true) rfl rfl rfl (cB (dT h_7)) <| jA (PO.pickT (v := .bool true) (cB (dT h_7)) rfl) <| jA (jD (v := .bool true) rfl) <| ja (b := true) rfl rfl rfl (cB rfl) <| ja (b := true) rfl rfl rfl (cB rfl) <| ja (b := true) rfl rfl rfl (cB rfl) <| ja (b := true) rfl rfl rfl (cB rfl) ?_
      refine jA (PO.pickT (v := .bool true) (cB rfl) rfl) <| jE <| jB <| jQ (cB rfl) <| jC <| jF <| jA (jG (v := .bool false) rfl) <| jE <| jB <| jK ?_
      refine je <| jO <| jO <| je <| jO <| jN (.inl rfl) rfl (jJ (v := .bool false) rfl) (List.nil_sublist _) ?_
      refine ⟨?_, rfl⟩
      rw [keyOk_bad (j := j) (by omega) (by simp only [keyByte, Bool.and_eq_true, Bool.and_eq_false_iff, decide_eq_true_eq, decide_eq_false_iff_not, Bool.not_eq_true', Bool.not_eq_false']; omega)]
    refine jd rfl rfl rfl (cB (dF h_7)) (jg (jj (jD (v := str key) he_2))) ?_
    rintro _ _ ⟨rfl, rfl⟩
    refine jd rfl rfl rfl (cB (dF h_7)) (jg (jj (jD (v := nv j) rfl))) ?_
    rintro _ _ ⟨rfl, rfl⟩
    refine jd rfl rfl rfl (cB (dF h_7)) (jg (jj (PO.indexS (i := j) (c := key.getD j 0) kN rfl rfl (getD_some (by omega))))) ?_
    rintro _ _ ⟨rfl, rfl⟩
    have hu_8 := UInt8.toNat_lt (key.getD j 0)
    refine jd rfl rfl rfl (cB (dF h_7)) (jg (jj (PO.gtr rfl rfl))) ?_
    rintro _ _ ⟨rfl, rfl⟩
    refine jA (PO.pickF (v := .bool (decide (126 < ((key.getD j 0).toNat : Int)))) (cB (dF h_7)) rfl) <| jA (jD (v := .bool (decide (126 < ((key.getD j 0).toNat : Int)))) rfl) ?_
    by_cases h_9 : 126 < ((key.getD j 0).toNat : Int)
    · refine ja (b := true) rfl rfl rfl (cB (dT h_9)) <| ja (b := true) rfl rfl rfl (cB (dT h_9)) <| ja (b := true) rfl rfl rfl (cB (dT h_9)) <| ja (b := true) rfl rfl rfl (cB (dT h_9)) <| jA (PO.pickT (v := .bool true) (cB (dT h_9)) rfl) <| jE <| jB <| jQ (cB rfl) <| jC <| jF ?_
      refine jA (jG (v := .bool false) rfl) <| jE <| jB <| jK <| je <| jO <| jO <| je <| jO <| jN (.inl rfl) rfl (jJ (v := .bool false) rfl) (List.nil_sublist _) ?_
      refine ⟨?_, rfl⟩
      rw [keyOk_bad (j := j) (by omega) (by simp only [keyByte, Bool.and_eq_true, Bool.and_eq_false_iff, decide_eq_true_eq, decide_eq_false_iff_not, Bool.not_eq_true', Bool.not_eq_false']; omega)]
    refine jd rfl rfl rfl (cB (dF h_9)) (jg (jj (jD (v := str key) he_2))) ?_
    rintro _ _ ⟨rfl, rfl⟩
    refine jd rfl rfl rfl (cB (dF h_9)) (jg (jj (jD (v := nv j) rfl))) ?_
    rintro _ _ ⟨rfl, rfl⟩
    refine jd rfl rfl rfl (cB (dF h_9)) (jg (jj (PO.indexS (i := j) (c := key.getD j 0) kN rfl rfl (getD_some (by omega))))) ?_
    rintro _ _ ⟨rfl, rfl⟩
    have hu_10 := UInt8.toNat_lt (key.getD j 0)
    refine jd rfl rfl rfl (cB (dF h_9)) (jg (jj (PO.eqlI rfl rfl))) ?_
    rintro _ _ ⟨rfl, rfl⟩
    refine jA (PO.pickF (v := .bool (decide (((key.getD j 0).toNat : Int) = 42))) (cB (dF h_9)) rfl) <| jE <| jB ?_
    by_cases h_11 : ((key.getD j 0).toNat : Int) = 42
    · refine jQ (cB (dT h_11)) <| jC <| jF <| jA (jG (v := .bool false) rfl) <| jE <| jB <| jK <| je <| jO <| jO ?_
      refine je <| jO <| jN (.inl rfl) rfl (jJ (v := .bool false) rfl) (List.nil_sublist _) ?_
      refine ⟨?_, rfl⟩
      rw [keyOk_bad (j := j) (by omega) (by simp only [keyByte, Bool.and_eq_true, Bool.and_eq_false_iff, decide_eq_true_eq, decide_eq_false_iff_not, Bool.not_eq_true', Bool.not_eq_false']; omega)]
    refine jL (cB (dF h_11)) <| jM <| jk <| jB <| jF <| jA (jT (c := ((j + 1 : Nat) : Int)) he_4 rfl (wr (by omega))) <| jA (jD (v := iv ((j + 1 : Nat) : Int)) rfl) <| jE ?_
    refine jl (key.length - (j + 1)) (by omega) ⟨j + 1, by omega, (fun i hi hl => if h : i = j then h ▸ (by simp only [keyByte, Bool.and_eq_true, Bool.and_eq_false_iff, decide_eq_true_eq, decide_eq_false_iff_not, Bool.not_eq_true', Bool.not_eq_false']; omega : keyByte (key.getD j 0) = true) else hN i (by omega) hl), he_2, he_3, rfl, rfl, rfl⟩
  refine jL (cB (dF h_5)) <| jm <| jY <| jY <| jn <| jB <| jC <| jF <| jA (jD (v := str key) he_2) <| jA (PO.lenS kN rfl) ?_
  refine jI rfl (jR [] Tryz.call70 rfl (C_within (key.length : Int) 1 40) rfl (fun _ _ => trivial)) ?_
  rintro _ _ ⟨_, ⟨rfl, rfl⟩, rfl⟩
  refine jA (jG (v := .bool (decide (1 ≤ (key.length : Int)) && decide ((key.length : Int) ≤ 40))) rfl) <| jE <| jB <| jK <| jN (.inl rfl) rfl (jJ (v := .bool (decide (1 ≤ (key.length : Int)) && decide ((key.length : Int) ≤ 40))) rfl) (List.nil_sublist _) ?_
  refine ⟨?_, rfl⟩
  rw [keyOk_good (j := j) (by omega) hN]
  exact cB (by congr 1 <;> exact decide_eq_decide.2 (by omega))

theorem C_cellAt1 (kb : Nat) (key : Str) (x : Cell) :
    Ct Tryz.prog 105 [.agg #[str x.1, str x.2], .pointer (some ⟨kb, 0, none⟩)] [bk kb 9 [str key]] (fun _ => True) (fun v A' => v = .bool (decide (x.1 = key)) ∧ A' = [bk kb 9 [str key]]) := by
  refine Ct.intro Tryz.func105 rfl Tryz.ntmps105 (lb rfl) fun w0 hpre => ?_
  refine jC <| jF ?_
  refine jI rfl (jp (cs := [str x.1, str x.2]) rfl rfl) ?_
  rintro _ _ ⟨b_1, rfl, rfl⟩
  refine jA (jG (v := .bool false) rfl) <| jE <| jB <| jC <| jF <| jA (jS fo62_0 rfl) <| jP (jU 0 (v := str x.1) rfl rfl kH rfl) <| jP (jU 1 (v := str key) rfl rfl kH rfl) <| jA (PO.eqlS rfl rfl) <| jA (jG (v := .bool (decide (x.1 = key))) rfl) ?_
  refine jE <| jB <| jK <| JQ.perm (pick_perm [1] (A := [bk kb 9 [str key]]) (F := [bk b_1 62 [str x.1, str x.2]]) rfl).symm <| jN (.inl rfl) rfl (jJ (v := .bool (decide (x.1 = key))) rfl) (sL [bk kb 9 [str key]] [bk b_1 62 [str x.1, str x.2]]) ?_
  exact ⟨rfl, rfl⟩

theorem C_put1 (kb : Nat) (key : Str) (x : Cell) :
    Ct Tryz.prog 97 [.agg #[str x.1, str x.2], .pointer (some ⟨kb, 0, none⟩)] [bk kb 9 [str key]] (fun _ => True) (fun v A' => v = .bool (decide (x.1 = key)) ∧ A' = [bk kb 9 [str key]]) := by
  refine Ct.intro Tryz.func97 rfl Tryz.ntmps97 (lb rfl) fun w0 hpre => ?_
  refine jC <| jF ?_
  refine jI rfl (jp (cs := [str x.1, str x.2]) rfl rfl) ?_
  rintro _ _ ⟨b_1, rfl, rfl⟩
  refine jA (jG (v := .bool false) rfl) <| jE <| jB <| jC <| jF <| jA (jS fo62_0 rfl) <| jP (jU 0 (v := str x.1) rfl rfl kH rfl) <| jP (jU 1 (v := str key) rfl rfl kH rfl) <| jA (PO.eqlS rfl rfl) <| jA (jG (v := .bool (decide (x.1 = key))) rfl) ?_
  refine jE <| jB <| jK <| JQ.perm (pick_perm [1] (A := [bk kb 9 [str key]]) (F := [bk b_1 62 [str x.1, str x.2]]) rfl).symm <| jN (.inl rfl) rfl (jJ (v := .bool (decide (x.1 = key))) rfl) (sL [bk kb 9 [str key]] [bk b_1 62 [str x.1, str x.2]]) ?_
  exact ⟨rfl, rfl⟩

theorem C_put2 (kb : Nat) (key : Str) (x : Cell) :
    Ct Tryz.prog 99 [.agg #[str x.1, str x.2], .pointer (some ⟨kb, 0, none⟩)] [bk kb 9 [str key]] (fun _ => True) (fun v A' => v = .bool (gtrB x.1 key) ∧ A' = [bk kb 9 [str key]]) := by
  refine Ct.intro Tryz.func99 rfl Tryz.ntmps99 (lb rfl) fun w0 hpre => ?_
  refine jC <| jF ?_
  refine jI rfl (jp (cs := [str x.1, str x.2]) rfl rfl) ?_
  rintro _ _ ⟨b_1, rfl, rfl⟩
  refine jA (jG (v := .bool false) rfl) <| jE <| jB <| jC <| jF <| jA (jS fo62_0 rfl) <| jP (jU 0 (v := str x.1) rfl rfl kH rfl) <| jP (jU 1 (v := str key) rfl rfl kH rfl) <| jA (PO.gtrS rfl rfl) <| jA (jG (v := .bool (!Op.bytesLess x.1 key && !decide (x.1 = key))) rfl) ?_
  refine jE <| jB <| jK <| JQ.perm (pick_perm [1] (A := [bk kb 9 [str key]]) (F := [bk b_1 62 [str x.1, str x.2]]) rfl).symm <| jN (.inl rfl) rfl (jJ (v := .bool (!Op.bytesLess x.1 key && !decide (x.1 = key))) rfl) (sL [bk kb 9 [str key]] [bk b_1 62 [str x.1, str x.2]]) ?_
  exact ⟨rfl, rfl⟩

theorem C_addSpan1 (kb : Nat) (key : Str) (x : Str) :
    Ct Tryz.prog 91 [str x, .pointer (some ⟨kb, 0, none⟩)] [bk kb 9 [str key]] (fun _ => True) (fun v A' => v = .bool (geqB x key) ∧ A' = [bk kb 9 [str key]]) := by
  refine Ct.intro Tryz.func91 rfl Tryz.ntmps91 (lb rfl) fun w0 hpre => ?_
  refine jC <| jF <| jA (jG (v := .bool false) rfl) <| jE <| jB <| jC <| jF <| jA (jD (v := str x) rfl) <| jP (jU 0 (v := str key) rfl rfl kH rfl) <| jA (PO.geqS rfl rfl) ?_
  refine jA (jG (v := .bool (!(Op.bytesLess x key))) rfl) <| jE <| jB <| jK <| jN (.inl rfl) rfl (jJ (v := .bool (!(Op.bytesLess x key))) rfl) (List.Sublist.refl _) ?_
  exact ⟨rfl, rfl⟩

theorem C_cellAt (a : Option Addr) (c : Nat) (s : List Cell) (key : Str) (hn : s.length ≤ 1000000000000) :
    Ct Tryz.prog 93 [.slice a s.length c, str key] [] (fun w_ => Sees w_ (.slice a s.length c) 2 s.length (s.flatMap encC)) (fun v A' => v = .int .i64 (idxI (fun q_ => decide (q_.1 = key)) s) ∧ A' = []) := by
  refine Ct.intro Tryz.func93 rfl Tryz.ntmps93 (lb rfl) fun w0 hpre => ?_
  have hs_a : Sees w0 _ _ _ _ := hpre
  refine jC <| jF ?_
  refine jI rfl (jp (cs := [str key]) rfl rfl) ?_
  rintro _ _ ⟨b_1, rfl, rfl⟩
  refine jA (jG (v := iv 0) rfl) <| jE <| jB <| jC <| jF <| jA (jD (v := .slice a s.length c) rfl) <| jA (PO.makeFunc (fv := []) (cv := [.pointer (some ⟨b_1, 0, none⟩)]) rfl rfl) ?_
  refine jI rfl (jR [0] Tryz.call98 rfl (C_idxC 105 Tryz.call105 b_1 key (fun q_ => decide (q_.1 = key)) (C_cellAt1 b_1 key) a c s (by omega)) rfl (fun w hw => ⟨hw.seeOut_ hs_a nM, hw.apartF 0 hs_a rfl List.not_mem_nil⟩)) ?_
  rintro _ _ ⟨_, ⟨rfl, rfl⟩, rfl⟩
  have hix1 := idxI_lo (fun q_ => decide (q_.1 = key)) s
  have hfl1 := findAt_le (fun q_ => decide (q_.1 = key)) s
  refine jA (jG (v := iv (idxI (fun q_ => decide (q_.1 = key)) s)) rfl) <| jE <| jB <| jK <| jN (.inl rfl) rfl (jJ (v := iv (idxI (fun q_ => decide (q_.1 = key)) s)) rfl) (List.nil_sublist _) ?_
  exact ⟨rfl, rfl⟩

theorem C_getKey (a : Option Addr) (c : Nat) (s : List Cell) (key : Str) (hn : s.length ≤ 1000000000000) :
    Ct Tryz.prog 84 [.slice a s.length c, str key] [] (fun w_ => Sees w_ (.slice a s.length c) 2 s.length (s.flatMap encC)) (fun v A' => v = str (getKey s key) ∧ A' = []) := by
  refine Ct.intro Tryz.func84 rfl Tryz.ntmps84 (lb rfl) fun w0 hpre => ?_
  have hs_a : Sees w0 _ _ _ _ := hpre
  refine jC <| jF <| jA (jG (v := str []) rfl) <| jE <| jB <| jC <| jC <| jF <| jA (jD (v := .slice a s.length c) rfl) <| jA (jD (v := str key) rfl) ?_
  refine jI rfl (jR [] Tryz.call93 rfl (C_cellAt a c s key (by omega)) rfl (fun w hw => hw.seeOut_ hs_a nM)) ?_
  rintro _ _ ⟨_, ⟨rfl, rfl⟩, rfl⟩
  have hix0 := idxI_lo (fun q_ => decide (q_.1 = key)) s
  have hfl0 := findAt_le (fun q_ => decide (q_.1 = key)) s
  refine jA (jG (v := iv (idxI (fun q_ => decide (q_.1 = key)) s)) rfl) <| jE <| jB <| jC <| jF <| jA (jD (v := iv (idxI (fun q_ => decide (q_.1 = key)) s)) rfl) <| jA (PO.geq rfl rfl) <| jE <| jB ?_
  by_cases h_1 : 0 ≤ (idxI (fun q_ => decide (q_.1 = key)) s)
  · have hx_2l : findAt (fun q_ => decide (q_.1 = key)) s < s.length := by omega
    have hx_2e : idxI (fun q_ => decide (q_.1 = key)) s = ((findAt (fun q_ => decide (q_.1 = key)) s : Nat) : Int) := by omega
    refine jQ (cB (dT h_1)) <| jC <| jF <| jA (jD (v := .slice a s.length c) rfl) <| jA (jD (v := iv ((findAt (fun q_ => decide (q_.1 = key)) s : Nat) : Int)) (congrArg (Value.int .i64) hx_2e)) ?_
    obtain ⟨hr_3, hr_3b, -⟩ := sees_some hs_a (by omega)
    refine jA (jV (i := (findAt (fun q_ => decide (q_.1 = key)) s)) kD kG hr_3 hr_3b rfl rfl (by omega)) <| jA (jX fo62_1 hr_3 rfl) <| jP (ji (v := str ((s.getD (findAt (fun q_ => decide (q_.1 = key)) s) c0).2)) hs_a nM rfl kH (atC2 (by omega))) <| jA (jG (v := str ((s.getD (findAt (fun q_ => decide (q_.1 = key)) s) c0).2)) rfl) <| jE <| jB <| jK <| jO <| jN (.inl rfl) rfl (jJ (v := str ((s.getD (findAt (fun q_ => decide (q_.1 = key)) s) c0).2)) rfl) (List.nil_sublist _) ?_
    refine ⟨?_, rfl⟩
    rw [getKey_found hx_2l]
  have hx_4l : findAt (fun q_ => decide (q_.1 = key)) s = s.length := by omega
  refine jL (cB (dF h_1)) <| jM <| jB <| jC <| jF <| jA (jG (v := str []) rfl) <| jE <| jB <| jK <| jN (.inl rfl) rfl (jJ (v := str []) rfl) (List.nil_sublist _) ?_
  refine ⟨?_, rfl⟩
  rw [getKey_none hx_4l]

theorem C_addSpan (a : Option Addr) (c : Nat) (l : List Str) (x : Str) (hn : l.length ≤ 100000000000) :
    Ct Tryz.prog 83 [.slice a l.length c, str x] [Res.row (.slice a l.length c) 9 1 l.length (l.map str)] (fun _ => True) (fun v A' => ∃ a' c', v = .slice a' (addSpan l x).length c' ∧ A' = [.row (.slice a' (addSpan l x).length c') 9 1 (addSpan l x).length ((addSpan l x).map str)]) := by
  refine Ct.intro Tryz.func83 rfl Tryz.ntmps83 (lb rfl) fun w0 hpre => ?_
  refine jC <| jF ?_
  refine jI rfl (jp (cs := [str x]) rfl rfl) ?_
  rintro _ _ ⟨b_1, rfl, rfl⟩
  refine jA (jG (v := .slice none 0 0) rfl) <| jE <| jB <| jC <| jF <| jA (jD (v := .slice a l.length c) rfl) <| jA (PO.makeFunc (fv := []) (cv := [.pointer (some ⟨b_1, 0, none⟩)]) rfl rfl) ?_
  refine jI rfl (jR [0] Tryz.call90 rfl (C_idxS 91 Tryz.call91 b_1 x (fun q_ => geqB q_ x) (C_addSpan1 b_1 x) a c l (by omega)) rfl (fun w hw => ⟨hw.see (i := 1) rfl, hw.apartO 1 0 rfl rfl rfl⟩)) ?_
  rintro _ _ ⟨_, ⟨rfl, rfl⟩, rfl⟩
  have hix1 := idxI_lo (fun q_ => geqB q_ x) l
  have hfl1 := findAt_le (fun q_ => geqB q_ x) l
  refine jA (jG (v := iv (idxI (fun q_ => geqB q_ x) l)) rfl) <| jE <| jB <| jC <| jC <| jF <| jA (jD (v := iv (idxI (fun q_ => geqB q_ x) l)) rfl) <| jA (jb rfl rfl) <| jE <| jB ?_
  by_cases h_2 : (idxI (fun q_ => geqB q_ x) l) < 0
  · have hx_3l : findAt (fun q_ => geqB q_ x) l = l.length := by omega
    refine jQ (cB (dT h_2)) <| jC <| jF <| jA (jD (v := .slice a l.length c) rfl) <| jP (jU 0 (v := str x) rfl rfl kH rfl) ?_
    refine jI rfl (jy (ps := [(0, str x)]) (cur := #[str x]) kF kI Tryz.zeroValue9 rfl (by kernel_rfl) (by decide) (by decide)) ?_
    rintro _ _ ⟨a_4, rfl, rfl⟩
    refine jI rfl (JO.append' 2 (q := 1) (news := ([x] : List Str).map str) (n' := (l ++ ([x] : List Str)).length) (cs' := (l ++ ([x] : List Str)).map str) rfl kF kF Tryz.typeInfo9 rfl (by' := 16) rfl rfl rfl rfl rfl (fun w hw => Src.sees (hw.see (i := 0) rfl) (oneS _)) (by (try simp only [LE]); omega) (by (try simp only [LE]); omega) (by simp only [List.length_append, List.length_take, List.length_drop, List.length_cons, List.length_nil] <;> first | rfl | omega) (by simp only [List.map_append])) ?_
    rintro _ _ ⟨a_5, c_6, rfl, rfl⟩
    refine jA (jG (v := .slice a_5 ((l ++ ([x] : List Str)).length) c_6) rfl) <| jE <| jB <| jK <| jO <| JQ.perm (pick_perm [2] (A := [Res.row (.slice a_5 ((l ++ ([x] : List Str)).length) c_6) 9 1 ((l ++ ([x] : List Str)).length) ((l ++ ([x] : List Str)).map str)]) (F := [Res.row (.slice a_4 1 1) 9 1 1 (([x] : List Str).map str), bk b_1 9 [str x]]) rfl).symm <| jN (.inl rfl) rfl (jJ (v := .slice a_5 ((l ++ ([x] : List Str)).length) c_6) rfl) (sL [Res.row (.slice a_5 ((l ++ ([x] : List Str)).length) c_6) 9 1 ((l ++ ([x] : List Str)).length) ((l ++ ([x] : List Str)).map str)] [Res.row (.slice a_4 1 1) 9 1 1 (([x] : List Str).map str), bk b_1 9 [str x]]) ?_
    exact ⟨_, _, by rw [addSpan_end hx_3l], by rw [addSpan_end hx_3l] <;> rfl⟩
  have hx_7l : findAt (fun q_ => geqB q_ x) l < l.length := by omega
  have hx_7e : idxI (fun q_ => geqB q_ x) l = ((findAt (fun q_ => geqB q_ x) l : Nat) : Int) := by omega
  refine jL (cB (dF h_2)) <| jM <| jB <| jC <| jC <| jv [bk b_1 9 [str x], Res.row (.slice a l.length c) 9 1 l.length (l.map str)] 5 mixed (by simp) <| jW 0 rfl (jD (v := .slice a l.length c) rfl) <| jW 1 rfl (jD (v := iv ((findAt (fun q_ => geqB q_ x) l : Nat) : Int)) (congrArg (Value.int .i64) hx_7e)) ?_
  refine JA.facts fun hst => ?_
  obtain ⟨hr_8, hr_8b, -⟩ := row_some 1 rfl (by omega) hst
  refine jW 2 rfl (jV (i := (findAt (fun q_ => geqB q_ x) l)) kF kI hr_8 hr_8b rfl rfl (by omega)) <| jw 3 rfl (LO.loadR1 1 (v := str (l.getD (findAt (fun q_ => geqB q_ x) l) [])) rfl rfl kH (atS (by omega))) <| jw 4 rfl (jU 0 (v := str x) rfl rfl kH rfl) <| jW 5 rfl (PO.eqlS rfl rfl) <| kB (by kernel_rfl) <| jB ?_
  by_cases h_9 : (l.getD (findAt (fun q_ => geqB q_ x) l) []) = x
  · have hsame := h_9
    refine jQ (cB (dT h_9)) <| jC <| jF <| jA (jD (v := .slice a l.length c) rfl) <| jA (jG (v := .slice a l.length c) rfl) <| jE <| jB <| jK <| jO <| JQ.perm (pick_perm [1] (A := [Res.row (.slice a l.length c) 9 1 l.length (l.map str)]) (F := [bk b_1 9 [str x]]) rfl).symm ?_
    refine jN (.inl rfl) rfl (jJ (v := .slice a l.length c) rfl) (sL [Res.row (.slice a l.length c) 9 1 l.length (l.map str)] [bk b_1 9 [str x]]) ?_
    exact ⟨_, _, by rw [addSpan_same hx_7l hsame], by rw [addSpan_same hx_7l hsame] <;> rfl⟩
  have hsame := h_9
  refine jL (cB (dF h_9)) <| jM <| jB <| jC <| jF <| jA (jD (v := .slice a l.length c) rfl) <| jA (jD (v := iv ((findAt (fun q_ => geqB q_ x) l : Nat) : Int)) (congrArg (Value.int .i64) hx_7e)) <| jP (jU 0 (v := str x) rfl rfl kH rfl) ?_
  refine jI rfl (jy (ps := [(0, str x)]) (cur := #[str x]) kF kI Tryz.zeroValue9 rfl (by kernel_rfl) (by decide) (by decide)) ?_
  rintro _ _ ⟨a_10, rfl, rfl⟩
  refine jI rfl (jR [2, 0] Tryz.call92 rfl (C_insS a a_10 c l (findAt (fun q_ => geqB q_ x) l) x (by omega) (by omega) (by rw [List.length_map, Nat.mul_one])) rfl (fun _ _ => trivial)) ?_
  rintro _ _ ⟨_, ⟨a_11, c_12, rfl, rfl⟩, rfl⟩
  refine jA (jG (v := .slice a_11 ((insertAt (findAt (fun q_ => geqB q_ x) l) x l).length) c_12) rfl) <| jE <| jB <| jK <| jN (.inl rfl) rfl (jJ (v := .slice a_11 ((insertAt (findAt (fun q_ => geqB q_ x) l) x l).length) c_12) rfl) (sL [Res.row (.slice a_11 ((insertAt (findAt (fun q_ => geqB q_ x) l) x l).length) c_12) 9 1 ((insertAt (findAt (fun q_ => geqB q_ x) l) x l).length) ((insertAt (findAt (fun q_ => geqB q_ x) l) x l).map str)] [bk b_1 9 [str x]]) ?_
  exact ⟨_, _, by rw [addSpan_ins hx_7l hsame], by rw [addSpan_ins hx_7l hsame] <;> rfl⟩

theorem C_put (a : Option Addr) (c : Nat) (s : List Cell) (key val : Str) (hn : s.length ≤ 100000000000) (hk : key.length ≤ 1000000000000) :
    Ct Tryz.prog 86 [.slice a s.length c, str key, str val] [Res.row (.slice a s.length c) 62 2 s.length (s.flatMap encC)] (fun _ => True) (fun v A' => ∃ a' c', v = .slice a' (putKey s key val).length c' ∧ A' = [.row (.slice a' (putKey s key val).length c') 62 2 (putKey s key val).length ((putKey s key val).flatMap encC)]) := by
  refine Ct.intro Tryz.func86 rfl Tryz.ntmps86 (lb rfl) fun w0 hpre => ?_
  refine jC <| jF ?_
  refine jI rfl (jp (cs := [str key]) rfl rfl) ?_
  rintro _ _ ⟨b_1, rfl, rfl⟩
  refine jA (jG (v := .slice none 0 0) rfl) <| jE <| jB <| jC <| jC <| jF <| jP (jU 0 (v := str key) rfl rfl kH rfl) ?_
  refine jI rfl (jR [] Tryz.call95 rfl (C_keyOk key (by omega)) rfl (fun _ _ => trivial)) ?_
  rintro _ _ ⟨_, ⟨rfl, rfl⟩, rfl⟩
  refine jA (jq rfl) <| jA (jD (v := .bool (!(keyOk key))) rfl) ?_
  rcases Bool.eq_false_or_eq_true (keyOk key) with h_2 | h_2
  · refine jd rfl rfl rfl (cB (cN h_2)) (jg (jj (jD (v := str val) rfl))) ?_
    rintro _ _ ⟨rfl, rfl⟩
    refine jd rfl rfl rfl (cB (cN h_2)) (jg (jj (PO.lenS kN rfl))) ?_
    rintro _ _ ⟨rfl, rfl⟩
    refine jd rfl rfl rfl (cB (cN h_2)) (jg (jj (PO.gtr rfl rfl))) ?_
    rintro _ _ ⟨rfl, rfl⟩
    refine jA (PO.pickF (v := .bool (decide (60 < (val.length : Int)))) (cB (cN h_2)) rfl) <| jE <| jB ?_
    by_cases h_3 : 60 < (val.length : Int)
    · refine jQ (cB (dT h_3)) <| jC <| jF <| jA (jD (v := .slice a s.length c) rfl) <| jA (jG (v := .slice a s.length c) rfl) <| jE <| jB <| jK <| jO <| JQ.perm (pick_perm [1] (A := [Res.row (.slice a s.length c) 62 2 s.length (s.flatMap encC)]) (F := [bk b_1 9 [str key]]) rfl).symm ?_
      refine jN (.inl rfl) rfl (jJ (v := .slice a s.length c) rfl) (sL [Res.row (.slice a s.length c) 62 2 s.length (s.flatMap encC)] [bk b_1 9 [str key]]) ?_
      have he := (putKey_bad2 (by omega) : putKey s key val = _)
      exact ⟨_, _, by rw [he], by rw [he] <;> rfl⟩
    refine jL (cB (dF h_3)) <| jM <| jB <| jC <| jF <| jA (jD (v := .slice a s.length c) rfl) <| jA (PO.makeFunc (fv := []) (cv := [.pointer (some ⟨b_1, 0, none⟩)]) rfl rfl) ?_
    refine jI rfl (jR [0, 0] Tryz.call96 rfl (C_delC 97 Tryz.call97 b_1 key (fun q_ => decide (q_.1 = key)) (C_put1 b_1 key) a c s (by omega)) rfl (fun _ _ => trivial)) ?_
    rintro _ _ ⟨_, ⟨a_4, c_5, rfl, rfl⟩, rfl⟩
    have hfi5 : (s.filter (fun c => !decide (c.1 = key))).length ≤ s.length := List.length_filter_le _ _
    refine jA (jG (v := .slice a_4 ((s.filter (fun c => !decide (c.1 = key))).length) c_5) rfl) <| jE <| jB <| jC <| jC <| jF <| jA (jD (v := str val) rfl) <| jA (PO.eqlS rfl rfl) <| jE <| jB ?_
    by_cases h_6 : val = []
    · refine jQ (cB (dT h_6)) <| jC <| jF <| jA (jD (v := .slice a_4 ((s.filter (fun c => !decide (c.1 = key))).length) c_5) rfl) <| jA (jG (v := .slice a_4 ((s.filter (fun c => !decide (c.1 = key))).length) c_5) rfl) <| jE <| jB <| jK <| jO <| JQ.perm (pick_perm [1] (A := [Res.row (.slice a_4 ((s.filter (fun c => !decide (c.1 = key))).length) c_5) 62 2 ((s.filter (fun c => !decide (c.1 = key))).length) ((s.filter (fun c => !decide (c.1 = key))).flatMap encC)]) (F := [bk b_1 9 [str key]]) rfl).symm ?_
      refine jN (.inl rfl) rfl (jJ (v := .slice a_4 ((s.filter (fun c => !decide (c.1 = key))).length) c_5) rfl) (sL [Res.row (.slice a_4 ((s.filter (fun c => !decide (c.1 = key))).length) c_5) 62 2 ((s.filter (fun c => !decide (c.1 = key))).length) ((s.filter (fun c => !decide (c.1 = key))).flatMap encC)] [bk b_1 9 [str key]]) ?_
      have he := (putKey_nil h_2 (by omega) h_6 : putKey s key val = _)
      exact ⟨_, _, by rw [he], by rw [he] <;> rfl⟩
    refine jL (cB (dF h_6)) <| jM <| jB <| jC <| jF <| jA (jD (v := .slice a_4 ((s.filter (fun c => !decide (c.1 = key))).length) c_5) rfl) <| jA (PO.makeFunc (fv := []) (cv := [.pointer (some ⟨b_1, 0, none⟩)]) rfl rfl) ?_
    refine jI rfl (jR [0] Tryz.call98 rfl (C_idxC 99 Tryz.call99 b_1 key (fun q_ => gtrB q_.1 key) (C_put2 b_1 key) a_4 c_5 (s.filter (fun c => !decide (c.1 = key))) (by omega)) rfl (fun w hw => ⟨hw.see (i := 1) rfl, hw.apartO 1 0 rfl rfl rfl⟩)) ?_
    rintro _ _ ⟨_, ⟨rfl, rfl⟩, rfl⟩
    have hix6 := idxI_lo (fun q_ => gtrB q_.1 key) (s.filter (fun c => !decide (c.1 = key)))
    have hfl6 := findAt_le (fun q_ => gtrB q_.1 key) (s.filter (fun c => !decide (c.1 = key)))
    refine jA (jG (v := iv (idxI (fun q_ => gtrB q_.1 key) (s.filter (fun c => !decide (c.1 = key))))) rfl) <| jE <| jB <| jC <| jC <| jF <| jA (jD (v := iv (idxI (fun q_ => gtrB q_.1 key) (s.filter (fun c => !decide (c.1 = key))))) rfl) <| jA (jb rfl rfl) <| jE <| jB ?_
    by_cases h_7 : (idxI (fun q_ => gtrB q_.1 key) (s.filter (fun c => !decide (c.1 = key)))) < 0
    · have hx_8l : findAt (fun q_ => gtrB q_.1 key) (s.filter (fun c => !decide (c.1 = key))) = (s.filter (fun c => !decide (c.1 = key))).length := by omega
      refine jQ (cB (dT h_7)) <| jF <| jA (jD (v := .slice a_4 ((s.filter (fun c => !decide (c.1 = key))).length) c_5) rfl) <| jA (jh kD rfl) <| jA (jG (v := iv (((s.filter (fun c => !decide (c.1 = key))).length : Nat) : Int)) rfl) <| jE <| jB <| jC <| jF <| jA (jD (v := .slice a_4 ((s.filter (fun c => !decide (c.1 = key))).length) c_5) rfl) ?_
      refine jA (jD (v := iv (((s.filter (fun c => !decide (c.1 = key))).length : Nat) : Int)) rfl) <| jP (jU 0 (v := str key) rfl rfl kH rfl) <| jA (jD (v := str val) rfl) <| jA (PO.build (ps := [(0, str key), (1, str val)]) (cs := [str key, str val]) rfl (by kernel_rfl)) ?_
      refine jI rfl (jy (ps := [(0, .agg #[str key, str val])]) (cur := #[str key, str val]) kD kG kW rfl (by kernel_rfl) (by decide) (by decide)) ?_
      rintro _ _ ⟨a_9, rfl, rfl⟩
      refine jI rfl (jR [2, 0] Tryz.call100 rfl (C_insC a_4 a_9 c_5 (s.filter (fun c => !decide (c.1 = key))) ((s.filter (fun c => !decide (c.1 = key))).length) (key, val) (by omega) (by omega) (by rw [lenC])) rfl (fun _ _ => trivial)) ?_
      rintro _ _ ⟨_, ⟨a_10, c_11, rfl, rfl⟩, rfl⟩
      refine jA (jG (v := .slice a_10 ((insertAt ((s.filter (fun c => !decide (c.1 = key))).length) (key, val) (s.filter (fun c => !decide (c.1 = key)))).length) c_11) rfl) <| jE <| jB <| jK <| jN (.inl rfl) rfl (jJ (v := .slice a_10 ((insertAt ((s.filter (fun c => !decide (c.1 = key))).length) (key, val) (s.filter (fun c => !decide (c.1 = key)))).length) c_11) rfl) (sL [Res.row (.slice a_10 ((insertAt ((s.filter (fun c => !decide (c.1 = key))).length) (key, val) (s.filter (fun c => !decide (c.1 = key)))).length) c_11) 62 2 ((insertAt ((s.filter (fun c => !decide (c.1 = key))).length) (key, val) (s.filter (fun c => !decide (c.1 = key)))).length) ((insertAt ((s.filter (fun c => !decide (c.1 = key))).length) (key, val) (s.filter (fun c => !decide (c.1 = key)))).flatMap encC)] [bk b_1 9 [str key]]) ?_
      have he := (putKey_ins h_2 (by omega) h_6 : putKey s key val = _)
      exact ⟨_, _, by rw [he, hx_8l], by rw [he, hx_8l] <;> rfl⟩
    have hx_12l : findAt (fun q_ => gtrB q_.1 key) (s.filter (fun c => !decide (c.1 = key))) < (s.filter (fun c => !decide (c.1 = key))).length := by omega
    have hx_12e : idxI (fun q_ => gtrB q_.1 key) (s.filter (fun c => !decide (c.1 = key))) = ((findAt (fun q_ => gtrB q_.1 key) (s.filter (fun c => !decide (c.1 = key))) : Nat) : Int) := by omega
    refine jL (cB (dF h_7)) <| jM <| jB <| jC <| jF <| jA (jD (v := .slice a_4 ((s.filter (fun c => !decide (c.1 = key))).length) c_5) rfl) <| jA (jD (v := iv ((findAt (fun q_ => gtrB q_.1 key) (s.filter (fun c => !decide (c.1 = key))) : Nat) : Int)) (congrArg (Value.int .i64) hx_12e)) <| jP (jU 0 (v := str key) rfl rfl kH rfl) <| jA (jD (v := str val) rfl) <| jA (PO.build (ps := [(0, str key), (1, str val)]) (cs := [str key, str val]) rfl (by kernel_rfl)) ?_
    refine jI rfl (jy (ps := [(0, .agg #[str key, str val])]) (cur := #[str key, str val]) kD kG kW rfl (by kernel_rfl) (by decide) (by decide)) ?_
    rintro _ _ ⟨a_13, rfl, rfl⟩
    refine jI rfl (jR [2, 0] Tryz.call100 rfl (C_insC a_4 a_13 c_5 (s.filter (fun c => !decide (c.1 = key))) (findAt (fun q_ => gtrB q_.1 key) (s.filter (fun c => !decide (c.1 = key)))) (key, val) (by omega) (by omega) (by rw [lenC])) rfl (fun _ _ => trivial)) ?_
    rintro _ _ ⟨_, ⟨a_14, c_15, rfl, rfl⟩, rfl⟩
    refine jA (jG (v := .slice a_14 ((insertAt (findAt (fun q_ => gtrB q_.1 key) (s.filter (fun c => !decide (c.1 = key)))) (key, val) (s.filter (fun c => !decide (c.1 = key)))).length) c_15) rfl) <| jE <| jB <| jK <| jN (.inl rfl) rfl (jJ (v := .slice a_14 ((insertAt (findAt (fun q_ => gtrB q_.1 key) (s.filter (fun c => !decide (c.1 = key)))) (key, val) (s.filter (fun c => !decide (c.1 = key)))).length) c_15) rfl) (sL [Res.row (.slice a_14 ((insertAt (findAt (fun q_ => gtrB q_.1 key) (s.filter (fun c => !decide (c.1 = key)))) (key, val) (s.filter (fun c => !decide (c.1 = key)))).length) c_15) 62 2 ((insertAt (findAt (fun q_ => gtrB q_.1 key) (s.filter (fun c => !decide (c.1 = key)))) (key, val) (s.filter (fun c => !decide (c.1 = key)))).length) ((insertAt (findAt (fun q_ => gtrB q_.1 key) (s.filter (fun c => !decide (c.1 = key)))) (key, val) (s.filter (fun c => !decide (c.1 = key)))).flatMap encC)] [bk b_1 9 [str key]]) ?_
    have he := (putKey_ins h_2 (by omega) h_6 : putKey s key val = _)
    exact ⟨_, _, by rw [he], by rw [he] <;> rfl⟩
  refine ja (b := true) rfl rfl rfl (cB (cN h_2)) <| ja (b := true) rfl rfl rfl (cB (cN h_2)) <| ja (b := true) rfl rfl rfl (cB (cN h_2)) <| jA (PO.pickT (v := .bool true) (cB (cN h_2)) rfl) <| jE <| jB <| jQ (cB rfl) <| jC <| jF <| jA (jD (v := .slice a s.length c) rfl) ?_
  refine jA (jG (v := .slice a s.length c) rfl) <| jE <| jB <| jK <| jO <| JQ.perm (pick_perm [1] (A := [Res.row (.slice a s.length c) 62 2 s.length (s.flatMap encC)]) (F := [bk b_1 9 [str key]]) rfl).symm <| jN (.inl rfl) rfl (jJ (v := .slice a s.length c) rfl) (sL [Res.row (.slice a s.length c) 62 2 s.length (s.flatMap encC)] [bk b_1 9 [str key]]) ?_
  have he := (putKey_bad1 h_2 : putKey s key val = _)
  exact ⟨_, _, by rw [he], by rw [he] <;> rfl⟩

end Go.Proofs.YtkmpmjficoohkaaGreatDoor

set_option linter.unusedSimpArgs false
set_option linter.unusedVariables false
set_option linter.unnecessarySimpa false
namespace Go.Proofs.YtkmpmjficoohkaaGreatDoor
open Go Go.RowKit
attribute [local irreducible] JL JC JQ JO LO PO JA JX Ct



theorem C_look (p : Nat) (a0 a1 a2 : Option Addr) (c0_ c1 c2 : Nat) (m : MS) (key : Str) (h0 : m.s.length ≤ 10000000000) (h1 : m.r.length ≤ 10000000000) (h2 : m.w.length ≤ 10000000000) :
    Ct Tryz.prog 69 [.pointer (some ⟨p, 0, none⟩), str key] [bk p 52 [.slice a0 m.s.length c0_, .slice a1 m.r.length c1, .slice a2 m.w.length c2], Res.row (.slice a0 m.s.length c0_) 62 2 m.s.length (m.s.flatMap encC), Res.row (.slice a1 m.r.length c1) 9 1 m.r.length (m.r.map str), Res.row (.slice a2 m.w.length c2) 9 1 m.w.length (m.w.map str)] (fun _ => True) (fun v A' => ∃ x0 y0 x1 y1 x2 y2, v = str (m.look key).2 ∧ A' = [bk p 52 [.slice x0 (((m.look key).1).s.length) y0, .slice x1 (((m.look key).1).r.length) y1, .slice x2 (((m.look key).1).w.length) y2], Res.row (.slice x0 (((m.look key).1).s.length) y0) 62 2 ((((m.look key).1).s).length) ((((m.look key).1).s).flatMap encC), Res.row (.slice x1 (((m.look key).1).r.length) y1) 9 1 ((((m.look key).1).r).length) ((((m.look key).1).r).map str), Res.row (.slice x2 (((m.look key).1).w.length) y2) 9 1 ((((m.look key).1).w).length) ((((m.look key).1).w).map str)]) := by
  refine Ct.intro Tryz.func69 rfl Tryz.ntmps69 (lb rfl) fun w0 hpre => ?_
  refine jC <| jF <| jA (jG (v := str []) rfl) <| jE <| jB <| jC <| jF <| jA (jD (v := pv p) rfl) <| jA (jD (v := pv p) rfl) <| jA (PO.nilCheck rfl) ?_
  refine jA (jS fo52_1 rfl) <| jA (jS fo50_0 rfl) <| jP (jU 0 (v := .slice a1 m.r.length c1) rfl rfl kT rfl) <| jA (jD (v := str key) rfl) ?_
  refine jI rfl (jR [2] Tryz.call83 rfl (C_addSpan a1 c1 m.r key (by omega)) rfl (fun _ _ => trivial)) ?_
  rintro _ _ ⟨_, ⟨a_1, c_2, rfl, rfl⟩, rfl⟩
  refine jA (PO.nilCheck rfl) <| jA (jS fo52_1 rfl) <| jA (jS fo50_0 rfl) ?_
  refine jI rfl (JO.store 1 (vs := [.slice a_1 ((addSpan m.r key).length) c_2]) (cs' := [.slice a0 m.s.length c0_, .slice a_1 ((addSpan m.r key).length) c_2, .slice a2 m.w.length c2]) rfl rfl rfl rfl Tryz.sizeOf30 rfl rfl (lb rfl) rfl) ?_
  rintro _ _ rfl
  refine jE <| jB <| jC <| jF <| jA (jD (v := pv p) rfl) <| jA (PO.nilCheck rfl) <| jA (jS fo52_0 rfl) <| jP (jU 1 (v := .slice a0 m.s.length c0_) rfl rfl kX rfl) <| jA (jD (v := str key) rfl) ?_
  refine jI rfl (jR [] Tryz.call84 rfl (C_getKey a0 c0_ m.s key (by omega)) rfl (fun w hw => hw.see (i := 2) rfl)) ?_
  rintro _ _ ⟨_, ⟨rfl, rfl⟩, rfl⟩
  refine jA (jG (v := str (getKey m.s key)) rfl) <| jE <| jB <| jK <| JQ.perm (pick_perm [1, 1, 0, 0] (A := [bk p 52 [.slice a0 m.s.length c0_, .slice a_1 ((addSpan m.r key).length) c_2, .slice a2 m.w.length c2], Res.row (.slice a0 m.s.length c0_) 62 2 m.s.length (m.s.flatMap encC), Res.row (.slice a_1 ((addSpan m.r key).length) c_2) 9 1 ((addSpan m.r key).length) ((addSpan m.r key).map str), Res.row (.slice a2 m.w.length c2) 9 1 m.w.length (m.w.map str)]) (F := []) rfl).symm <| jN (.inl rfl) rfl (jJ (v := str (getKey m.s key)) rfl) (tS 4 _) ?_
  exact ⟨_, _, _, _, _, _, rfl, rfl⟩

theorem C_lay (p : Nat) (a0 a1 a2 : Option Addr) (c0_ c1 c2 : Nat) (m : MS) (key val : Str) (h0 : m.s.length ≤ 10000000000) (h1 : m.r.length ≤ 10000000000) (h2 : m.w.length ≤ 10000000000) (hk : key.length ≤ 1000000000000) :
    Ct Tryz.prog 72 [.pointer (some ⟨p, 0, none⟩), str key, str val] [bk p 52 [.slice a0 m.s.length c0_, .slice a1 m.r.length c1, .slice a2 m.w.length c2], Res.row (.slice a0 m.s.length c0_) 62 2 m.s.length (m.s.flatMap encC), Res.row (.slice a1 m.r.length c1) 9 1 m.r.length (m.r.map str), Res.row (.slice a2 m.w.length c2) 9 1 m.w.length (m.w.map str)] (fun _ => True) (fun v A' => ∃ x0 y0 x1 y1 x2 y2, v = .tuple #[] ∧ A' = [bk p 52 [.slice x0 ((m.lay key val).s.length) y0, .slice x1 ((m.lay key val).r.length) y1, .slice x2 ((m.lay key val).w.length) y2], Res.row (.slice x0 ((m.lay key val).s.length) y0) 62 2 (((m.lay key val).s).length) (((m.lay key val).s).flatMap encC), Res.row (.slice x1 ((m.lay key val).r.length) y1) 9 1 (((m.lay key val).r).length) (((m.lay key val).r).map str), Res.row (.slice x2 ((m.lay key val).w.length) y2) 9 1 (((m.lay key val).w).length) (((m.lay key val).w).map str)]) := by
  refine Ct.intro Tryz.func72 rfl Tryz.ntmps72 (lb rfl) fun w0 hpre => ?_
  refine jC <| jF <| jA (jD (v := pv p) rfl) <| jA (jD (v := pv p) rfl) <| jA (PO.nilCheck rfl) <| jA (jS fo52_1 rfl) <| jA (jS fo50_1 rfl) <| jP (jU 0 (v := .slice a2 m.w.length c2) rfl rfl kT rfl) <| jA (jD (v := str key) rfl) ?_
  refine jI rfl (jR [3] Tryz.call83 rfl (C_addSpan a2 c2 m.w key (by omega)) rfl (fun _ _ => trivial)) ?_
  rintro _ _ ⟨_, ⟨a_1, c_2, rfl, rfl⟩, rfl⟩
  refine jA (PO.nilCheck rfl) <| jA (jS fo52_1 rfl) <| jA (jS fo50_1 rfl) ?_
  refine jI rfl (JO.store 1 (vs := [.slice a_1 ((addSpan m.w key).length) c_2]) (cs' := [.slice a0 m.s.length c0_, .slice a1 m.r.length c1, .slice a_1 ((addSpan m.w key).length) c_2]) rfl rfl rfl rfl Tryz.sizeOf30 rfl rfl (lb rfl) rfl) ?_
  rintro _ _ rfl
  refine jE <| jB <| jF <| jA (jD (v := pv p) rfl) <| jA (jD (v := pv p) rfl) <| jA (PO.nilCheck rfl) <| jA (jS fo52_0 rfl) <| jP (jU 1 (v := .slice a0 m.s.length c0_) rfl rfl kX rfl) <| jA (jD (v := str key) rfl) <| jA (jD (v := str val) rfl) ?_
  refine jI rfl (jR [2] Tryz.call86 rfl (C_put a0 c0_ m.s key val (by omega) (by omega)) rfl (fun _ _ => trivial)) ?_
  rintro _ _ ⟨_, ⟨a_3, c_4, rfl, rfl⟩, rfl⟩
  refine jA (PO.nilCheck rfl) <| jA (jS fo52_0 rfl) ?_
  refine jI rfl (JO.store 2 (vs := [.slice a_3 ((putKey m.s key val).length) c_4]) (cs' := [.slice a_3 ((putKey m.s key val).length) c_4, .slice a1 m.r.length c1, .slice a_1 ((addSpan m.w key).length) c_2]) rfl rfl rfl rfl Tryz.sizeOf22 rfl rfl (lb rfl) rfl) ?_
  rintro _ _ rfl
  refine jE <| JQ.perm (pick_perm [2, 0, 1, 0] (A := [bk p 52 [.slice a_3 ((putKey m.s key val).length) c_4, .slice a1 m.r.length c1, .slice a_1 ((addSpan m.w key).length) c_2], Res.row (.slice a_3 ((putKey m.s key val).length) c_4) 62 2 ((putKey m.s key val).length) ((putKey m.s key val).flatMap encC), Res.row (.slice a1 m.r.length c1) 9 1 m.r.length (m.r.map str), Res.row (.slice a_1 ((addSpan m.w key).length) c_2) 9 1 ((addSpan m.w key).length) ((addSpan m.w key).map str)]) (F := []) rfl).symm <| Done.none (.inr rfl) rfl (tS 4 _) ?_
  exact ⟨_, _, _, _, _, _, rfl, rfl⟩

theorem C_decimal (n : Int) (h0 : -9223372036854775808 ≤ n) (h1 : n ≤ 9223372036854775807) :
    Ct Tryz.prog 71 [.int .i64 n] [] (fun _ => True) (fun v A' => v = str (dec n) ∧ A' = []) := by
  refine Ct.intro Tryz.func71 rfl Tryz.ntmps71 (lb rfl) fun w0 hpre => ?_
  refine jC <| jF <| jA (jG (v := str []) rfl) <| jE <| jB <| jC <| jF <| jA (jD (v := iv n) rfl) ?_
  refine jI rfl (jR [] Tryz.call85 rfl (C_itoa n (by omega) (by omega)) rfl (fun _ _ => trivial)) ?_
  rintro _ _ ⟨_, ⟨rfl, rfl⟩, rfl⟩
  refine jA (jG (v := str (dec n)) rfl) <| jE <| jB <| jK <| jN (.inl rfl) rfl (jJ (v := str (dec n)) rfl) (List.nil_sublist _) ?_
  exact ⟨rfl, rfl⟩

theorem C_readDecimal (t : Str) (ht : t.length ≤ 281474976710656) :
    Ct Tryz.prog 82 [str t] [] (fun _ => True) (fun v A' => v = .tuple #[.int .i64 (readDec t).1, .bool (readDec t).2] ∧ A' = []) := by
  refine Ct.intro Tryz.func82 rfl Tryz.ntmps82 (lb rfl) fun w0 hpre => ?_
  refine jC <| jF <| jA (jG (v := iv 0) rfl) <| jA (jG (v := .bool false) rfl) <| jE <| jB <| jC <| jF <| jA (jD (v := str t) rfl) ?_
  refine jI rfl (jR [] Tryz.call89 rfl (C_atoi t (by omega)) rfl (fun _ _ => trivial)) ?_
  rintro _ _ ⟨_, ⟨⟨n_, hat, rfl⟩ | ⟨hat, n_, te, pe, rfl⟩, rfl⟩, rfl⟩
  · refine jA (jD (v := .tuple #[iv n_, .nilIface]) rfl) <| jA (PO.extract (v := iv n_) rfl rfl) <| jA (PO.extract (v := .nilIface) rfl rfl) <| jA (jG (v := iv n_) rfl) <| jA (jG (v := .nilIface) rfl) <| jE <| jB <| jC <| jC <| jF ?_
    refine jA (jD (v := .nilIface) rfl) <| jA (PO.neqIfN Tryz.underlying120 rfl rfl) <| jA (jD (v := .bool false) rfl) <| jd rfl rfl rfl (cB rfl) (jg (jj (jD (v := iv n_) rfl))) ?_
    rintro _ _ ⟨rfl, rfl⟩
    refine jd rfl rfl rfl (cB rfl) (jR [] Tryz.call70 rfl (C_within n_ 0 1000000000) rfl (fun _ _ => trivial)) ?_
    rintro _ _ ⟨_, ⟨rfl, rfl⟩, rfl⟩
    refine jd rfl rfl rfl (cB rfl) (jg (jj (jq rfl))) ?_
    rintro _ _ ⟨rfl, rfl⟩
    refine jA (PO.pickF (v := .bool (!(decide (0 ≤ n_) && decide (n_ ≤ 1000000000)))) (cB rfl) rfl) <| jA (jD (v := .bool (!(decide (0 ≤ n_) && decide (n_ ≤ 1000000000)))) rfl) ?_
    rcases Bool.eq_false_or_eq_true (decide (0 ≤ n_) && decide (n_ ≤ 1000000000)) with h_1 | h_1
    · have h_1d := h_1
      simp only [Bool.and_eq_true, Bool.and_eq_false_iff, decide_eq_true_eq, decide_eq_false_iff_not] at h_1d
      refine jd rfl rfl rfl (cB (cN h_1)) (jg (jj (jD (v := iv n_) rfl))) ?_
      rintro _ _ ⟨rfl, rfl⟩
      refine jd rfl rfl rfl (cB (cN h_1)) (jR [] Tryz.call71 rfl (C_decimal n_ (by omega) (by omega)) rfl (fun _ _ => trivial)) ?_
      rintro _ _ ⟨_, ⟨rfl, rfl⟩, rfl⟩
      refine jd rfl rfl rfl (cB (cN h_1)) (jg (jj (jD (v := str t) rfl))) ?_
      rintro _ _ ⟨rfl, rfl⟩
      refine jd rfl rfl rfl (cB (cN h_1)) (jg (jj (kA rfl rfl))) ?_
      rintro _ _ ⟨rfl, rfl⟩
      refine jA (PO.pickF (v := .bool (!(decide ((dec n_) = t)))) (cB (cN h_1)) rfl) <| jE <| jB ?_
      by_cases h_2 : (dec n_) = t
      · refine jL (cB (cN (dT h_2))) <| jM <| jB <| jC <| jF <| jA (jD (v := iv n_) rfl) <| jA (jG (v := iv n_) rfl) <| jA (jG (v := .bool true) rfl) <| jE <| jB ?_
        refine jK <| Done.two (.inl rfl) rfl (jJ (v := iv n_) rfl) (jJ (v := .bool true) rfl) (List.nil_sublist _) ?_
        refine ⟨?_, rfl⟩
        rw [readDec_ok hat, if_pos (by refine ⟨?_, ?_, ?_⟩ <;> first | omega | simp_all)]
      refine jQ (cB (cN (dF h_2))) <| jC <| jF <| jA (jG (v := iv 0) rfl) <| jA (jG (v := .bool false) rfl) <| jE <| jB <| jK <| jO <| Done.two (.inl rfl) rfl (jJ (v := iv 0) rfl) (jJ (v := .bool false) rfl) (List.nil_sublist _) ?_
      refine ⟨?_, rfl⟩
      rw [readDec_ok hat, if_neg (fun h => by simp_all <;> omega)]
    have h_1d := h_1
    simp only [Bool.and_eq_true, Bool.and_eq_false_iff, decide_eq_true_eq, decide_eq_false_iff_not] at h_1d
    refine ja (b := true) rfl rfl rfl (cB (cN h_1)) <| ja (b := true) rfl rfl rfl (cB (cN h_1)) <| ja (b := true) rfl rfl rfl (cB (cN h_1)) <| ja (b := true) rfl rfl rfl (cB (cN h_1)) <| jA (PO.pickT (v := .bool true) (cB (cN h_1)) rfl) <| jE <| jB <| jQ (cB rfl) <| jC <| jF ?_
    refine jA (jG (v := iv 0) rfl) <| jA (jG (v := .bool false) rfl) <| jE <| jB <| jK <| jO <| Done.two (.inl rfl) rfl (jJ (v := iv 0) rfl) (jJ (v := .bool false) rfl) (List.nil_sublist _) ?_
    refine ⟨?_, rfl⟩
    rw [readDec_ok hat, if_neg (fun h => by simp_all <;> omega)]
  refine jA (jD (v := .tuple #[iv n_, .iface te pe]) rfl) <| jA (PO.extract (v := iv n_) rfl rfl) <| jA (PO.extract (v := .iface te pe) rfl rfl) <| jA (jG (v := iv n_) rfl) <| jA (jG (v := .iface te pe) rfl) <| jE <| jB <| jC <| jC <| jF ?_
  refine jA (jD (v := .iface te pe) rfl) <| jA (PO.neqIfS Tryz.underlying120 rfl rfl) <| jA (jD (v := .bool true) rfl) <| ja (b := true) rfl rfl rfl (cB rfl) <| ja (b := true) rfl rfl rfl (cB rfl) <| ja (b := true) rfl rfl rfl (cB rfl) <| jA (PO.pickT (v := .bool true) (cB rfl) rfl) <| jA (jD (v := .bool true) rfl) <| ja (b := true) rfl rfl rfl (cB rfl) <| ja (b := true) rfl rfl rfl (cB rfl) ?_
  refine ja (b := true) rfl rfl rfl (cB rfl) <| ja (b := true) rfl rfl rfl (cB rfl) <| jA (PO.pickT (v := .bool true) (cB rfl) rfl) <| jE <| jB <| jQ (cB rfl) <| jC <| jF <| jA (jG (v := iv 0) rfl) <| jA (jG (v := .bool false) rfl) ?_
  refine jE <| jB <| jK <| jO <| Done.two (.inl rfl) rfl (jJ (v := iv 0) rfl) (jJ (v := .bool false) rfl) (List.nil_sublist _) ?_
  rw [readDec_err hat]
  exact ⟨rfl, rfl⟩

theorem C_numOf (t : Str) (ht : t.length ≤ 281474976710656) :
    Ct Tryz.prog 68 [str t] [] (fun _ => True) (fun v A' => v = .int .i64 (numOf t) ∧ A' = []) := by
  refine Ct.intro Tryz.func68 rfl Tryz.ntmps68 (lb rfl) fun w0 hpre => ?_
  refine jC <| jF <| jA (jG (v := iv 0) rfl) <| jE <| jB <| jC <| jF <| jA (jD (v := str t) rfl) ?_
  refine jI rfl (jR [] Tryz.call82 rfl (C_readDecimal t ht) rfl (fun _ _ => trivial)) ?_
  rintro _ _ ⟨_, ⟨rfl, rfl⟩, rfl⟩
  refine jA (jD (v := .tuple #[iv ((readDec t).1), .bool ((readDec t).2)]) rfl) <| jA (PO.extract (v := iv ((readDec t).1)) rfl rfl) <| jA (PO.extract (v := .bool ((readDec t).2)) rfl rfl) <| jA (jG (v := iv ((readDec t).1)) rfl) <| jA (jG (v := .bool ((readDec t).2)) rfl) <| jE <| jB <| jC <| jC <| jF ?_
  refine jA (jD (v := iv ((readDec t).1)) rfl) <| jA (PO.gtr rfl rfl) <| jE <| jB ?_
  by_cases h_1 : 999 < ((readDec t).1)
  · refine jQ (cB (dT h_1)) <| jC <| jF <| jA (jG (v := iv 0) rfl) <| jE <| jB <| jK <| jO <| jN (.inl rfl) rfl (jJ (v := iv 0) rfl) (List.nil_sublist _) ?_
    refine ⟨?_, rfl⟩
    unfold numOf
    first | rw [if_pos (by omega)] | rw [if_neg (by omega)]
  refine jL (cB (dF h_1)) <| jM <| jB <| jC <| jF <| jA (jD (v := iv ((readDec t).1)) rfl) <| jA (jG (v := iv ((readDec t).1)) rfl) <| jE <| jB <| jK ?_
  refine jN (.inl rfl) rfl (jJ (v := iv ((readDec t).1)) rfl) (List.nil_sublist _) ?_
  refine ⟨?_, rfl⟩
  unfold numOf
  first | rw [if_pos (by omega)] | rw [if_neg (by omega)]

theorem C_num (p : Nat) (a0 a1 a2 : Option Addr) (c0_ c1 c2 : Nat) (m : MS) (key : Str) (h0 : m.s.length ≤ 10000000000) (h1 : m.r.length ≤ 10000000000) (h2 : m.w.length ≤ 10000000000) (hv : (getKey m.s key).length ≤ 281474976710656) :
    Ct Tryz.prog 52 [.pointer (some ⟨p, 0, none⟩), str key] [bk p 52 [.slice a0 m.s.length c0_, .slice a1 m.r.length c1, .slice a2 m.w.length c2], Res.row (.slice a0 m.s.length c0_) 62 2 m.s.length (m.s.flatMap encC), Res.row (.slice a1 m.r.length c1) 9 1 m.r.length (m.r.map str), Res.row (.slice a2 m.w.length c2) 9 1 m.w.length (m.w.map str)] (fun _ => True) (fun v A' => ∃ x0 y0 x1 y1 x2 y2, v = .int .i64 (m.num key).2 ∧ A' = [bk p 52 [.slice x0 (((m.num key).1).s.length) y0, .slice x1 (((m.num key).1).r.length) y1, .slice x2 (((m.num key).1).w.length) y2], Res.row (.slice x0 (((m.num key).1).s.length) y0) 62 2 ((((m.num key).1).s).length) ((((m.num key).1).s).flatMap encC), Res.row (.slice x1 (((m.num key).1).r.length) y1) 9 1 ((((m.num key).1).r).length) ((((m.num key).1).r).map str), Res.row (.slice x2 (((m.num key).1).w.length) y2) 9 1 ((((m.num key).1).w).length) ((((m.num key).1).w).map str)]) := by
  refine Ct.intro Tryz.func52 rfl Tryz.ntmps52 (lb rfl) fun w0 hpre => ?_
  refine jC <| jF <| jA (jG (v := iv 0) rfl) <| jE <| jB <| jC <| jF <| jA (jD (v := pv p) rfl) <| jA (jD (v := str key) rfl) ?_
  refine jI rfl (jR [0, 0, 0, 0] Tryz.call69 rfl (C_look p a0 a1 a2 c0_ c1 c2 m key (by omega) (by omega) (by omega)) rfl (fun _ _ => trivial)) ?_
  rintro _ _ ⟨_, ⟨a_1, c_2, a_3, c_4, a_5, c_6, rfl, rfl⟩, rfl⟩
  have hlk6 := look_len m key
  refine jI rfl (jR [] Tryz.call68 rfl (C_numOf ((MS.look m key).2) hv) rfl (fun _ _ => trivial)) ?_
  rintro _ _ ⟨_, ⟨rfl, rfl⟩, rfl⟩
  have hno6 := numOf_lo ((MS.look m key).2)
  refine jA (jG (v := iv (numOf ((MS.look m key).2))) rfl) <| jE <| jB <| jK <| jN (.inl rfl) rfl (jJ (v := iv (numOf ((MS.look m key).2))) rfl) (List.Sublist.refl _) ?_
  exact ⟨_, _, _, _, _, _, rfl, rfl⟩

theorem C_setNum (p : Nat) (a0 a1 a2 : Option Addr) (c0_ c1 c2 : Nat) (m : MS) (key : Str) (n : Int) (h0 : m.s.length ≤ 10000000000) (h1 : m.r.length ≤ 10000000000) (h2 : m.w.length ≤ 10000000000) (hk : key.length ≤ 1000000000000) (hn0 : -9223372036854775808 ≤ n) (hn1 : n ≤ 9223372036854775807) :
    Ct Tryz.prog 54 [.pointer (some ⟨p, 0, none⟩), str key, .int .i64 n] [bk p 52 [.slice a0 m.s.length c0_, .slice a1 m.r.length c1, .slice a2 m.w.length c2], Res.row (.slice a0 m.s.length c0_) 62 2 m.s.length (m.s.flatMap encC), Res.row (.slice a1 m.r.length c1) 9 1 m.r.length (m.r.map str), Res.row (.slice a2 m.w.length c2) 9 1 m.w.length (m.w.map str)] (fun _ => True) (fun v A' => ∃ x0 y0 x1 y1 x2 y2, v = .tuple #[] ∧ A' = [bk p 52 [.slice x0 ((m.setNum key n).s.length) y0, .slice x1 ((m.setNum key n).r.length) y1, .slice x2 ((m.setNum key n).w.length) y2], Res.row (.slice x0 ((m.setNum key n).s.length) y0) 62 2 (((m.setNum key n).s).length) (((m.setNum key n).s).flatMap encC), Res.row (.slice x1 ((m.setNum key n).r.length) y1) 9 1 (((m.setNum key n).r).length) (((m.setNum key n).r).map str), Res.row (.slice x2 ((m.setNum key n).w.length) y2) 9 1 (((m.setNum key n).w).length) (((m.setNum key n).w).map str)]) := by
  refine Ct.intro Tryz.func54 rfl Tryz.ntmps54 (lb rfl) fun w0 hpre => ?_
  refine jC <| jF <| jA (jG (v := str []) rfl) <| jE <| jB <| jC <| jC <| jF <| jA (jD (v := iv n) rfl) ?_
  refine jI rfl (jR [] Tryz.call70 rfl (C_within n 1 999) rfl (fun _ _ => trivial)) ?_
  rintro _ _ ⟨_, ⟨rfl, rfl⟩, rfl⟩
  refine jE <| jB ?_
  rcases Bool.eq_false_or_eq_true (decide (1 ≤ n) && decide (n ≤ 999)) with h_1 | h_1
  · have h_1d := h_1
    simp only [Bool.and_eq_true, Bool.and_eq_false_iff, decide_eq_true_eq, decide_eq_false_iff_not] at h_1d
    refine jQ (cB h_1) <| jF <| jA (jD (v := iv n) rfl) ?_
    refine jI rfl (jR [] Tryz.call71 rfl (C_decimal n (by omega) (by omega)) rfl (fun _ _ => trivial)) ?_
    rintro _ _ ⟨_, ⟨rfl, rfl⟩, rfl⟩
    refine jA (jG (v := str (dec n)) rfl) <| jE <| jB <| jF <| jA (jD (v := pv p) rfl) <| jA (jD (v := str key) rfl) <| jA (jD (v := str (dec n)) rfl) ?_
    refine jI rfl (jR [0, 0, 0, 0] Tryz.call72 rfl (C_lay p a0 a1 a2 c0_ c1 c2 m key (dec n) (by omega) (by omega) (by omega) (by omega)) rfl (fun _ _ => trivial)) ?_
    rintro _ _ ⟨_, ⟨a_2, c_3, a_4, c_5, a_6, c_7, rfl, rfl⟩, rfl⟩
    have hly7 := lay_len m key (dec n)
    refine jE <| Done.none (.inr rfl) rfl (List.Sublist.refl _) ?_
    have hb : m.setNum key n = m.lay key (dec n) := by unfold MS.setNum; rw [if_pos (by omega)]
    rw [hb]
    exact ⟨_, _, _, _, _, _, rfl, rfl⟩
  have h_1d := h_1
  simp only [Bool.and_eq_true, Bool.and_eq_false_iff, decide_eq_true_eq, decide_eq_false_iff_not] at h_1d
  refine jL (cB h_1) <| jM <| jB <| jF <| jA (jD (v := pv p) rfl) <| jA (jD (v := str key) rfl) <| jA (jD (v := str []) rfl) ?_
  refine jI rfl (jR [0, 0, 0, 0] Tryz.call72 rfl (C_lay p a0 a1 a2 c0_ c1 c2 m key [] (by omega) (by omega) (by omega) (by omega)) rfl (fun _ _ => trivial)) ?_
  rintro _ _ ⟨_, ⟨a_8, c_9, a_10, c_11, a_12, c_13, rfl, rfl⟩, rfl⟩
  have hly13 := lay_len m key []
  refine jE <| Done.none (.inr rfl) rfl (List.Sublist.refl _) ?_
  have hb : m.setNum key n = m.lay key [] := by unfold MS.setNum; rw [if_neg (by omega)]
  rw [hb]
  exact ⟨_, _, _, _, _, _, rfl, rfl⟩

theorem C_bump (p : Nat) (a0 a1 a2 : Option Addr) (c0_ c1 c2 : Nat) (m : MS) (key : Str) (h0 : m.s.length ≤ 1000000000) (h1 : m.r.length ≤ 1000000000) (h2 : m.w.length ≤ 1000000000) (hv : (getKey m.s key).length ≤ 281474976710656) (hk : key.length ≤ 1000000000000) :
    Ct Tryz.prog 53 [.pointer (some ⟨p, 0, none⟩), str key] [bk p 52 [.slice a0 m.s.length c0_, .slice a1 m.r.length c1, .slice a2 m.w.length c2], Res.row (.slice a0 m.s.length c0_) 62 2 m.s.length (m.s.flatMap encC), Res.row (.slice a1 m.r.length c1) 9 1 m.r.length (m.r.map str), Res.row (.slice a2 m.w.length c2) 9 1 m.w.length (m.w.map str)] (fun _ => True) (fun v A' => ∃ x0 y0 x1 y1 x2 y2, v = .int .i64 (m.bump key).2 ∧ A' = [bk p 52 [.slice x0 (((m.bump key).1).s.length) y0, .slice x1 (((m.bump key).1).r.length) y1, .slice x2 (((m.bump key).1).w.length) y2], Res.row (.slice x0 (((m.bump key).1).s.length) y0) 62 2 ((((m.bump key).1).s).length) ((((m.bump key).1).s).flatMap encC), Res.row (.slice x1 (((m.bump key).1).r.length) y1) 9 1 ((((m.bump key).1).r).length) ((((m.bump key).1).r).map str), Res.row (.slice x2 (((m.bump key).1).w.length) y2) 9 1 ((((m.bump key).1).w).length) ((((m.bump key).1).w).map str)]) := by
  refine Ct.intro Tryz.func53 rfl Tryz.ntmps53 (lb rfl) fun w0 hpre => ?_
  refine jC <| jF <| jA (jG (v := iv 0) rfl) <| jE <| jB <| jC <| jF <| jA (jD (v := pv p) rfl) <| jA (jD (v := str key) rfl) ?_
  refine jI rfl (jR [0, 0, 0, 0] Tryz.call52 rfl (C_num p a0 a1 a2 c0_ c1 c2 m key (by omega) (by omega) (by omega) hv) rfl (fun _ _ => trivial)) ?_
  rintro _ _ ⟨_, ⟨a_1, c_2, a_3, c_4, a_5, c_6, rfl, rfl⟩, rfl⟩
  have hnm6 := num_len m key
  have hnn6 : 0 ≤ (MS.num m key).2 ∧ (MS.num m key).2 ≤ 999 := numOf_lo _
  refine jA (jT (c := ((MS.num m key).2) + 1) rfl rfl (wr (by omega))) <| jA (jG (v := iv (((MS.num m key).2) + 1)) rfl) <| jE <| jB <| jC <| jC <| jF <| jA (jD (v := iv (((MS.num m key).2) + 1)) rfl) <| jA (PO.gtr rfl rfl) <| jE ?_
  refine jB ?_
  by_cases h_7 : 999 < (((MS.num m key).2) + 1)
  · refine jQ (cB (dT h_7)) <| jC <| jF <| jA (jG (v := iv 0) rfl) <| jE <| jB <| jK <| jO <| jN (.inl rfl) rfl (jJ (v := iv 0) rfl) (List.Sublist.refl _) ?_
    have hb : m.bump key = ((m.num key).1, 0) := by unfold MS.bump; rw [if_pos (by omega)]
    rw [hb]
    exact ⟨_, _, _, _, _, _, rfl, rfl⟩
  refine jL (cB (dF h_7)) <| jM <| jB <| jC <| jF <| jA (jD (v := pv p) rfl) <| jA (jD (v := str key) rfl) <| jA (jD (v := iv (((MS.num m key).2) + 1)) rfl) ?_
  refine jI rfl (jR [0, 0, 0, 0] Tryz.call54 rfl (C_setNum p a_1 a_3 a_5 c_2 c_4 c_6 ((MS.num m key).1) key (((MS.num m key).2) + 1) (by omega) (by omega) (by omega) (by omega) (by omega) (by omega)) rfl (fun _ _ => trivial)) ?_
  rintro _ _ ⟨_, ⟨a_8, c_9, a_10, c_11, a_12, c_13, rfl, rfl⟩, rfl⟩
  have hsn13 := setNum_len ((MS.num m key).1) key (((MS.num m key).2) + 1)
  refine jE <| jB <| jC <| jF <| jA (jD (v := iv (((MS.num m key).2) + 1)) rfl) <| jA (jG (v := iv (((MS.num m key).2) + 1)) rfl) <| jE <| jB <| jK <| jN (.inl rfl) rfl (jJ (v := iv (((MS.num m key).2) + 1)) rfl) (List.Sublist.refl _) ?_
  have hb : m.bump key = ((m.num key).1.setNum key ((m.num key).2 + 1), (m.num key).2 + 1) := by unfold MS.bump; rw [if_neg (by omega)]
  rw [hb]
  exact ⟨_, _, _, _, _, _, rfl, rfl⟩

end Go.Proofs.YtkmpmjficoohkaaGreatDoor

set_option linter.unusedSimpArgs false
set_option linter.unusedVariables false
set_option linter.unnecessarySimpa false
namespace Go.Proofs.YtkmpmjficoohkaaGreatDoor
open Go Go.RowKit
attribute [local irreducible] JL JC JQ JO LO PO JA JX Ct

theorem C_l01In (n lo hi : Int) :
    Ct Tryz.prog 66 [.int .i64 n, .int .i64 lo, .int .i64 hi] [] (fun _ => True) (fun v A' => v = .bool (decide (lo ≤ n) && decide (n ≤ hi)) ∧ A' = []) := by
  refine Ct.intro Tryz.func66 rfl Tryz.ntmps66 (lb rfl) fun w0 hpre => ?_
  refine jC <| jF <| jA (jG (v := .bool false) rfl) <| jE <| jB <| jC <| jF <| jA (jD (v := iv n) rfl) <| jA (jD (v := iv lo) rfl) <| jA (PO.geq rfl rfl) ?_
  refine jA (jD (v := .bool (decide (lo ≤ n))) rfl) ?_
  by_cases h_1 : lo ≤ n
  · refine jd rfl rfl rfl (cB (dT h_1)) (jg (jj (jD (v := iv n) rfl))) ?_
    rintro _ _ ⟨rfl, rfl⟩
    refine jd rfl rfl rfl (cB (dT h_1)) (jg (jj (jD (v := iv hi) rfl))) ?_
    rintro _ _ ⟨rfl, rfl⟩
    refine jd rfl rfl rfl (cB (dT h_1)) (jg (jj (PO.leq rfl rfl))) ?_
    rintro _ _ ⟨rfl, rfl⟩
    refine jA (PO.pickT (v := .bool (decide (n ≤ hi))) (cB (dT h_1)) rfl) <| jA (jG (v := .bool (decide (n ≤ hi))) rfl) <| jE <| jB <| jK <| jN (.inl rfl) rfl (jJ (v := .bool (decide (n ≤ hi))) rfl) (List.nil_sublist _) ?_
    refine ⟨?_, rfl⟩
    simp_all <;> omega
  refine ja (b := false) rfl rfl rfl (cB (dF h_1)) <| ja (b := false) rfl rfl rfl (cB (dF h_1)) <| ja (b := false) rfl rfl rfl (cB (dF h_1)) <| jA (PO.pickF (v := .bool false) (cB (dF h_1)) rfl) <| jA (jG (v := .bool false) rfl) <| jE <| jB <| jK <| jN (.inl rfl) rfl (jJ (v := .bool false) rfl) (List.nil_sublist _) ?_
  refine ⟨?_, rfl⟩
  simp_all <;> omega

theorem C_sKeyOk (key : Str) (hk : key.length ≤ 1000000000000) :
    Ct Tryz.prog 88 [str key] [] (fun _ => True) (fun v A' => v = .bool (keyOk key) ∧ A' = []) := by
  refine Ct.intro Tryz.func88 rfl Tryz.ntmps88 (lb rfl) fun w0 hpre => ?_
  refine jC <| jF <| jA (jG (v := .bool false) rfl) <| jE <| jB <| jC <| jC <| jF <| jA (jG (v := iv 0) rfl) <| jE ?_
  refine jB <| jZ <| jo (fun k_ e_ L_ => ∃ j : Nat, (j ≤ key.length) ∧ (∀ i, i < j → i < key.length → keyByte (key.getD i 0) = true) ∧ e_ 0 = str key ∧ e_ 3 = nv j ∧ L_ = [] ∧ k_ = key.length - j) _ ⟨0, by omega, (fun i hi => absurd hi (Nat.not_lt_zero i)), rfl, rfl, rfl, rfl⟩ ?_
  rintro _ e_1 _ ⟨j, hj, hN, he_2, he_3, rfl, rfl⟩
  refine jC <| jC <| jF <| jA (jD (v := nv j) he_3) <| jA (jD (v := str key) he_2) <| jA (PO.lenS kN rfl) <| jA (jb rfl rfl) <| jE <| jB ?_
  by_cases h_4 : ((j : Nat) : Int) < (key.length : Int)
  · refine jQ (cB (dT h_4)) <| jM <| jB <| jC <| jZ <| jC <| jF <| jA (jD (v := str key) he_2) <| jA (jD (v := nv j) he_3) <| jA (PO.indexS (i := j) (c := key.getD j 0) kN rfl rfl (getD_some (by omega))) ?_
    have hu_5 := UInt8.toNat_lt (key.getD j 0)
    refine jA (PO.convI (c := ((key.getD j 0).toNat : Int)) Tryz.underlying5 Tryz.underlying3 rfl (wr (by omega))) ?_
    refine jI rfl (jR [] Tryz.call66 rfl (C_l01In ((key.getD j 0).toNat : Int) 33 126) rfl (fun _ _ => trivial)) ?_
    rintro _ _ ⟨_, ⟨rfl, rfl⟩, rfl⟩
    refine jA (jq rfl) <| jA (jD (v := .bool (!(decide (33 ≤ ((key.getD j 0).toNat : Int)) && decide (((key.getD j 0).toNat : Int) ≤ 126)))) rfl) ?_
    rcases Bool.eq_false_or_eq_true (decide (33 ≤ ((key.getD j 0).toNat : Int)) && decide (((key.getD j 0).toNat : Int) ≤ 126)) with h_6 | h_6
    · have h_6d := h_6
      simp only [Bool.and_eq_true, Bool.and_eq_false_iff, decide_eq_true_eq, decide_eq_false_iff_not] at h_6d
      refine jd rfl rfl rfl (cB (cN h_6)) (jg (jj (jD (v := str key) he_2))) ?_
      rintro _ _ ⟨rfl, rfl⟩
      refine jd rfl rfl rfl (cB (cN h_6)) (jg (jj (jD (v := nv j) he_3))) ?_
      rintro _ _ ⟨rfl, rfl⟩
      refine jd rfl rfl rfl (cB (cN h_6)) (jg (jj (PO.indexS (i := j) (c := key.getD j 0) kN rfl rfl (getD_some (by omega))))) ?_
      rintro _ _ ⟨rfl, rfl⟩
      have hu_7 := UInt8.toNat_lt (key.getD j 0)
      refine jd rfl rfl rfl (cB (cN h_6)) (jg (jj (PO.eqlI rfl rfl))) ?_
      rintro _ _ ⟨rfl, rfl⟩
      refine jA (PO.pickF (v := .bool (decide (((key.getD j 0).toNat : Int) = 42))) (cB (cN h_6)) rfl) <| jE <| jB ?_
      by_cases h_8 : ((key.getD j 0).toNat : Int) = 42
      · refine jQ (cB (dT h_8)) <| jC <| jF <| jA (jG (v := .bool false) rfl) <| jE <| jB <| jK <| je <| jO <| jO ?_
        refine je <| jO <| jN (.inl rfl) rfl (jJ (v := .bool false) rfl) (List.nil_sublist _) ?_
        refine ⟨?_, rfl⟩
        rw [keyOk_bad (j := j) (by omega) (by simp only [keyByte, Bool.and_eq_true, Bool.and_eq_false_iff, decide_eq_true_eq, decide_eq_false_iff_not, Bool.not_eq_true', Bool.not_eq_false']; omega)]
      refine jL (cB (dF h_8)) <| jM <| jk <| jB <| jF <| jA (jD (v := nv j) he_3) <| jA (jT (c := ((j + 1 : Nat) : Int)) rfl rfl (wr (by omega))) <| jA (jG (v := iv ((j + 1 : Nat) : Int)) rfl) <| jE ?_
      refine jl (key.length - (j + 1)) (by omega) ⟨j + 1, by omega, (fun i hi hl => if h : i = j then h ▸ (by simp only [keyByte, Bool.and_eq_true, Bool.and_eq_false_iff, decide_eq_true_eq, decide_eq_false_iff_not, Bool.not_eq_true', Bool.not_eq_false']; omega : keyByte (key.getD j 0) = true) else hN i (by omega) hl), he_2, rfl, rfl, rfl⟩
    have h_6d := h_6
    simp only [Bool.and_eq_true, Bool.and_eq_false_iff, decide_eq_true_eq, decide_eq_false_iff_not] at h_6d
    refine ja (b := true) rfl rfl rfl (cB (cN h_6)) <| ja (b := true) rfl rfl rfl (cB (cN h_6)) <| ja (b := true) rfl rfl rfl (cB (cN h_6)) <| ja (b := true) rfl rfl rfl (cB (cN h_6)) <| jA (PO.pickT (v := .bool true) (cB (cN h_6)) rfl) <| jE <| jB <| jQ (cB rfl) <| jC <| jF ?_
    refine jA (jG (v := .bool false) rfl) <| jE <| jB <| jK <| je <| jO <| jO <| je <| jO <| jN (.inl rfl) rfl (jJ (v := .bool false) rfl) (List.nil_sublist _) ?_
    refine ⟨?_, rfl⟩
    rw [keyOk_bad (j := j) (by omega) (by simp only [keyByte, Bool.and_eq_true, Bool.and_eq_false_iff, decide_eq_true_eq, decide_eq_false_iff_not, Bool.not_eq_true', Bool.not_eq_false']; omega)]
  refine jL (cB (dF h_4)) <| jm <| jY <| jY <| jn <| jB <| jC <| jF <| jA (jD (v := str key) he_2) <| jA (PO.lenS kN rfl) ?_
  refine jI rfl (jR [] Tryz.call66 rfl (C_l01In (key.length : Int) 1 40) rfl (fun _ _ => trivial)) ?_
  rintro _ _ ⟨_, ⟨rfl, rfl⟩, rfl⟩
  refine jA (jG (v := .bool (decide (1 ≤ (key.length : Int)) && decide ((key.length : Int) ≤ 40))) rfl) <| jE <| jB <| jK <| jN (.inl rfl) rfl (jJ (v := .bool (decide (1 ≤ (key.length : Int)) && decide ((key.length : Int) ≤ 40))) rfl) (List.nil_sublist _) ?_
  refine ⟨?_, rfl⟩
  rw [keyOk_good (j := j) (by omega) hN]
  exact cB (by congr 1 <;> exact decide_eq_decide.2 (by omega))

theorem C_sGetKey (a : Option Addr) (c : Nat) (s : List Cell) (key : Str) (hn : s.length ≤ 1000000000000) :
    Ct Tryz.prog 78 [.slice a s.length c, str key] [] (fun w_ => Sees w_ (.slice a s.length c) 2 s.length (s.flatMap encC)) (fun v A' => v = str (getKey s key) ∧ A' = []) := by
  refine Ct.intro Tryz.func78 rfl Tryz.ntmps78 (lb rfl) fun w0 hpre => ?_
  have hs_a : Sees w0 _ _ _ _ := hpre
  refine jC <| jF <| jA (jG (v := str []) rfl) <| jE <| jB <| jC <| jC <| jF <| jA (jG (v := iv 0) rfl) <| jE ?_
  refine jB <| jZ <| jo (fun k_ e_ L_ => ∃ j : Nat, (j ≤ s.length) ∧ (getKey (s.drop j) key = getKey s key) ∧ e_ 0 = .slice a s.length c ∧ e_ 1 = str key ∧ e_ 5 = nv j ∧ L_ = [] ∧ k_ = s.length - j) _ ⟨0, by omega, rfl, rfl, rfl, rfl, rfl, rfl⟩ ?_
  rintro _ e_1 _ ⟨j, hj, hR, he_2, he_3, he_4, rfl, rfl⟩
  refine jC <| jC <| jF <| jA (jD (v := nv j) he_4) <| jA (jD (v := .slice a s.length c) he_2) <| jA (jh kD rfl) <| jA (jb rfl rfl) <| jE <| jB ?_
  by_cases h_5 : ((j : Nat) : Int) < ((s.length : Nat) : Int)
  · have hlt : j < s.length := by omega
    refine jQ (cB (dT h_5)) <| jM <| jB <| jC <| jZ <| jC <| jF <| jA (jD (v := .slice a s.length c) he_2) <| jA (jD (v := nv j) he_4) ?_
    obtain ⟨hr_6, hr_6b, -⟩ := sees_some hs_a (by omega)
    refine jA (jV (i := j) kD kG hr_6 hr_6b rfl rfl (by omega)) <| jA (jX fo62_0 hr_6 rfl) <| jP (ji (v := str ((s.getD j c0).1)) hs_a nM rfl kH (atC1 (by omega))) <| jA (jD (v := str key) he_3) <| jA (PO.eqlS rfl rfl) <| jE <| jB ?_
    by_cases h_7 : ((s.getD j c0).1) = key
    · have hk := h_7
      refine jQ (cB (dT h_7)) <| jC <| jF <| jA (jD (v := .slice a s.length c) he_2) <| jA (jD (v := nv j) he_4) <| jA (jV (i := j) kD kG hr_6 hr_6b rfl rfl (by omega)) <| jA (jX fo62_1 hr_6 rfl) <| jP (ji (v := str ((s.getD j c0).2)) hs_a nM rfl kH (atC2 (by omega))) <| jA (jG (v := str ((s.getD j c0).2)) rfl) <| jE ?_
      refine jB <| jK <| je <| jO <| jO <| je <| jO <| jN (.inl rfl) rfl (jJ (v := str ((s.getD j c0).2)) rfl) (List.nil_sublist _) ?_
      refine ⟨?_, rfl⟩
      rw [drop_at (getD_some (d := c0) hlt), getKey, if_pos hk] at hR
      rw [← hR]
    have hk := h_7
    refine jL (cB (dF h_7)) <| jM <| jk <| jB <| jF <| jA (jD (v := nv j) he_4) <| jA (jT (c := ((j + 1 : Nat) : Int)) rfl rfl (wr (by omega))) <| jA (jG (v := iv ((j + 1 : Nat) : Int)) rfl) <| jE ?_
    refine jl (s.length - (j + 1)) (by omega) ⟨j + 1, by omega, (by rw [drop_at (getD_some (d := c0) hlt), getKey, if_neg hk] at hR; exact hR), he_2, he_3, rfl, rfl, rfl⟩
  refine jL (cB (dF h_5)) <| jm <| jY <| jY <| jn <| jB <| jC <| jF <| jA (jG (v := str []) rfl) <| jE ?_
  refine jB <| jK <| jN (.inl rfl) rfl (jJ (v := str []) rfl) (List.nil_sublist _) ?_
  refine ⟨?_, rfl⟩
  rw [List.drop_of_length_le (by omega)] at hR
  rw [← hR]
  rfl

theorem C_sPutKey (a : Option Addr) (c : Nat) (s : List Cell) (key val : Str) (hn : s.length ≤ 100000000000) (hk_ : key.length ≤ 1000000000000) :
    Ct Tryz.prog 80 [.slice a s.length c, str key, str val] [] (fun w_ => Sees w_ (.slice a s.length c) 2 s.length (s.flatMap encC)) (fun v A' => ∃ a' c', v = .slice a' (putKey s key val).length c' ∧ A' = [.row (.slice a' (putKey s key val).length c') 62 2 (putKey s key val).length ((putKey s key val).flatMap encC)]) := by
  refine Ct.intro Tryz.func80 rfl Tryz.ntmps80 (lb rfl) fun w0 hpre => ?_
  have hs_a : Sees w0 _ _ _ _ := hpre
  refine jC <| jF <| jA (jG (v := .slice none 0 0) rfl) <| jE <| jB <| jC <| jF ?_
  refine jI rfl (jy (ps := []) (cur := #[]) kD kG kW rfl (by kernel_rfl) (by decide) (by decide)) ?_
  rintro _ _ ⟨a_1, rfl, rfl⟩
  refine jA (jG (v := .slice a_1 0 0) rfl) <| jE <| jB <| jC <| jC <| jF <| jA (jD (v := str key) rfl) ?_
  refine jI rfl (jR [] Tryz.call88 rfl (C_sKeyOk key (by omega)) rfl (fun _ _ => trivial)) ?_
  rintro _ _ ⟨_, ⟨rfl, rfl⟩, rfl⟩
  refine jA (jq rfl) <| jA (jD (v := .bool (!(keyOk key))) rfl) ?_
  rcases Bool.eq_false_or_eq_true (keyOk key) with h_2 | h_2
  · have hkey := h_2
    refine jd rfl rfl rfl (cB (cN h_2)) (jg (jj (jD (v := str val) rfl))) ?_
    rintro _ _ ⟨rfl, rfl⟩
    refine jd rfl rfl rfl (cB (cN h_2)) (jg (jj (PO.lenS kN rfl))) ?_
    rintro _ _ ⟨rfl, rfl⟩
    refine jd rfl rfl rfl (cB (cN h_2)) (jg (jj (PO.gtr rfl rfl))) ?_
    rintro _ _ ⟨rfl, rfl⟩
    refine jA (PO.pickF (v := .bool (decide (60 < (val.length : Int)))) (cB (cN h_2)) rfl) <| jE <| jB ?_
    by_cases h_3 : 60 < (val.length : Int)
    · refine jQ (cB (dT h_3)) <| jC <| jF <| jA (jD (v := .slice a_1 0 0) rfl) <| jA (jD (v := .slice a s.length c) rfl) ?_
      refine jI rfl (JO.append' 0 (q := s.length) (news := s.flatMap encC) (n' := s.length) (cs' := s.flatMap encC) rfl kD kD ka rfl (by' := 32) rfl rfl rfl rfl rfl (fun w hw => Src.sees (hw.seeOut_ hs_a nM) (oneC _)) (by (try simp only [LE]); omega) (by (try simp only [LE]); omega) (by (try simp only [List.length_take, List.length_drop]); first | rfl | omega) rfl) ?_
      rintro _ _ ⟨a_4, c_5, rfl, rfl⟩
      refine jA (jG (v := .slice a_4 s.length c_5) rfl) <| jE <| jB <| jK <| jO <| jN (.inl rfl) rfl (jJ (v := .slice a_4 s.length c_5) rfl) (List.Sublist.refl _) ?_
      have he := (putKey_bad2 (by omega) : putKey s key val = _)
      exact ⟨_, _, by rw [he] <;> rfl, by rw [he] <;> rfl⟩
    refine jL (cB (dF h_3)) <| jM <| jB <| jC <| jF <| jA (jD (v := str val) rfl) <| jA (PO.eqlS rfl rfl) <| jA (jG (v := .bool (decide (val = []))) rfl) <| jE <| jB ?_
    refine jC <| jC <| jF <| jA (jG (v := iv 0) rfl) <| jE <| jB <| jZ <| jo (fun k_ e_ L_ => ∃ j : Nat, ∃ xa : Option Addr, ∃ xc : Nat, ∃ o_ : List Cell, ∃ done : Bool, (j ≤ s.length) ∧ (o_.length ≤ 2 * j) ∧ (o_ ++ putL key val done (s.drop j) = putKey s key val) ∧ e_ 0 = .slice a s.length c ∧ e_ 1 = str key ∧ e_ 2 = str val ∧ e_ 6 = .slice none 0 0 ∧ e_ 7 = .slice xa o_.length xc ∧ e_ 8 = .bool done ∧ e_ 9 = nv j ∧ L_ = [Res.row (.slice xa o_.length xc) 62 2 o_.length (o_.flatMap encC)] ∧ k_ = s.length - j) _ ⟨0, a_1, 0, [], (decide (val = [])), by omega, (by simp), (putL_put hkey (by omega)), rfl, rfl, rfl, rfl, rfl, rfl, rfl, rfl, rfl⟩ ?_
    rintro _ e_6 _ ⟨j, xa, xc, o_, done, hj, hl, hR, he_7, he_8, he_9, he_10, he_11, he_12, he_13, rfl, rfl⟩
    refine jC <| jC <| jF <| jA (jD (v := nv j) he_13) <| jA (jD (v := .slice a s.length c) he_7) <| jA (jh kD rfl) <| jA (jb rfl rfl) <| jE <| jB ?_
    by_cases h_14 : ((j : Nat) : Int) < ((s.length : Nat) : Int)
    · have hlt : j < s.length := by omega
      refine jQ (cB (dT h_14)) <| jM <| jB <| jC <| jZ <| jC <| jC <| jF <| jA (jD (v := .bool done) he_12) <| jA (jq rfl) ?_
      refine jA (jD (v := .bool (!done)) rfl) ?_
      rcases Bool.eq_false_or_eq_true (done) with h_15 | h_15
      · have hd := h_15
        refine ja (b := false) rfl rfl rfl (cB (cN h_15)) <| ja (b := false) rfl rfl rfl (cB (cN h_15)) <| ja (b := false) rfl rfl rfl (cB (cN h_15)) <| ja (b := false) rfl rfl rfl (cB (cN h_15)) <| ja (b := false) rfl rfl rfl (cB (cN h_15)) <| ja (b := false) rfl rfl rfl (cB (cN h_15)) <| ja (b := false) rfl rfl rfl (cB (cN h_15)) <| jA (PO.pickF (v := .bool false) (cB (cN h_15)) rfl) <| jE <| jB ?_
        refine jL (cB rfl) <| jM <| jB <| jC <| jF <| jA (jD (v := .slice a s.length c) he_7) <| jA (jD (v := nv j) he_13) ?_
        obtain ⟨hr_16, hr_16b, -⟩ := sees_some hs_a (by omega)
        refine jA (jV (i := j) kD kG hr_16 hr_16b rfl rfl (by omega)) <| jA (jX fo62_0 hr_16 rfl) <| jP (ji (v := str ((s.getD j c0).1)) hs_a nM rfl kH (atC1 (by omega))) <| jA (jD (v := str key) he_8) <| jA (kA rfl rfl) <| jE <| jB ?_
        by_cases h_17 : ((s.getD j c0).1) = key
        · have hk := h_17
          refine jL (cB (cN (dT h_17))) <| jM <| jk <| jB <| jF <| jA (jD (v := nv j) he_13) <| jA (jT (c := ((j + 1 : Nat) : Int)) rfl rfl (wr (by omega))) <| jA (jG (v := iv ((j + 1 : Nat) : Int)) rfl) <| jE <| JQ.pick [0] (A := [Res.row (.slice xa o_.length xc) 62 2 o_.length (o_.flatMap encC)]) rfl ?_
          refine jl (s.length - (j + 1)) (by omega) ⟨j + 1, xa, xc, o_, done, by omega, (by (try simp only [List.length_append, List.length_cons, List.length_nil]); omega), (by rw [putL_step hlt] at hR; simp only [hd, hk, Bool.not_true, Bool.not_false, Bool.true_and, Bool.false_and, Bool.or_true, Bool.true_or, Bool.or_false, Bool.false_or, if_true, if_false, Bool.false_eq_true, List.nil_append, List.append_nil, List.append_assoc] at hR ⊢; exact hR), he_7, he_8, he_9, he_10, he_11, he_12, rfl, rfl, rfl⟩
        have hk := h_17
        refine jQ (cB (cN (dF h_17))) <| jF <| jA (jD (v := .slice xa o_.length xc) he_11) <| jA (jD (v := .slice a s.length c) he_7) <| jA (jD (v := nv j) he_13) <| jA (jV (i := j) kD kG hr_16 hr_16b rfl rfl (by omega)) <| jP (LO.loadSK (vs := [str ((s.getD j c0).1), str ((s.getD j c0).2)]) hs_a nM rfl Tryz.isAgg62 kG (atC (by omega)) rfl (by decide)) ?_
        refine jI rfl (jy (ps := [(0, .agg #[str ((s.getD j c0).1), str ((s.getD j c0).2)])]) (cur := #[str ((s.getD j c0).1), str ((s.getD j c0).2)]) kD kG kW rfl (by kernel_rfl) (by decide) (by decide)) ?_
        rintro _ _ ⟨a_18, rfl, rfl⟩
        refine jI rfl (JO.append' 1 (q := 1) (news := ([((s.getD j c0).1, (s.getD j c0).2)] : List Cell).flatMap encC) (n' := (o_ ++ ([((s.getD j c0).1, (s.getD j c0).2)] : List Cell)).length) (cs' := (o_ ++ ([((s.getD j c0).1, (s.getD j c0).2)] : List Cell)).flatMap encC) rfl kD kD ka rfl (by' := 32) rfl rfl rfl rfl rfl (fun w hw => Src.sees (hw.see (i := 0) rfl) (oneC _)) (by (try simp only [LE]); omega) (by (try simp only [LE]); omega) (by simp only [List.length_append, List.length_take, List.length_drop, List.length_cons, List.length_nil] <;> first | rfl | omega) (by simp only [List.flatMap_append])) ?_
        rintro _ _ ⟨a_19, c_20, rfl, rfl⟩
        refine jA (jG (v := .slice a_19 ((o_ ++ ([((s.getD j c0).1, (s.getD j c0).2)] : List Cell)).length) c_20) rfl) <| jE <| jk <| jB <| jF <| jA (jD (v := nv j) he_13) <| jA (jT (c := ((j + 1 : Nat) : Int)) rfl rfl (wr (by omega))) <| jA (jG (v := iv ((j + 1 : Nat) : Int)) rfl) <| jE <| JQ.pick [1] (A := [Res.row (.slice a_19 ((o_ ++ ([((s.getD j c0).1, (s.getD j c0).2)] : List Cell)).length) c_20) 62 2 ((o_ ++ ([((s.getD j c0).1, (s.getD j c0).2)] : List Cell)).length) ((o_ ++ ([((s.getD j c0).1, (s.getD j c0).2)] : List Cell)).flatMap encC)]) rfl ?_
        refine jl (s.length - (j + 1)) (by omega) ⟨j + 1, a_19, c_20, (o_ ++ ([((s.getD j c0).1, (s.getD j c0).2)] : List Cell)), done, by omega, (by (try simp only [List.length_append, List.length_cons, List.length_nil]); omega), (by rw [putL_step hlt] at hR; simp only [hd, hk, Bool.not_true, Bool.not_false, Bool.true_and, Bool.false_and, Bool.or_true, Bool.true_or, Bool.or_false, Bool.false_or, if_true, if_false, Bool.false_eq_true, List.nil_append, List.append_nil, List.append_assoc] at hR ⊢; exact hR), he_7, he_8, he_9, he_10, rfl, he_12, rfl, rfl, rfl⟩
      have hd := h_15
      refine jd rfl rfl rfl (cB (cN h_15)) (jg (jj (jD (v := .slice a s.length c) he_7))) ?_
      rintro _ _ ⟨rfl, rfl⟩
      refine jd rfl rfl rfl (cB (cN h_15)) (jg (jj (jD (v := nv j) he_13))) ?_
      rintro _ _ ⟨rfl, rfl⟩
      obtain ⟨hr_21, hr_21b, -⟩ := sees_some hs_a (by omega)
      refine jd rfl rfl rfl (cB (cN h_15)) (jg (jj (jV (i := j) kD kG hr_21 hr_21b rfl rfl (by omega)))) ?_
      rintro _ _ ⟨rfl, rfl⟩
      refine jd rfl rfl rfl (cB (cN h_15)) (jg (jj (jX fo62_0 hr_21 rfl))) ?_
      rintro _ _ ⟨rfl, rfl⟩
      refine jd rfl rfl rfl (cB (cN h_15)) (jg (ji (v := str ((s.getD j c0).1)) hs_a nM rfl kH (atC1 (by omega)))) ?_
      rintro _ _ ⟨rfl, rfl⟩
      refine jd rfl rfl rfl (cB (cN h_15)) (jg (jj (jD (v := str key) he_8))) ?_
      rintro _ _ ⟨rfl, rfl⟩
      refine jd rfl rfl rfl (cB (cN h_15)) (jg (jj (PO.gtrS rfl rfl))) ?_
      rintro _ _ ⟨rfl, rfl⟩
      refine jA (PO.pickT (v := .bool (!Op.bytesLess ((s.getD j c0).1) key && !decide (((s.getD j c0).1) = key))) (cB (cN h_15)) rfl) <| jE <| jB ?_
      rcases Bool.eq_false_or_eq_true (!Op.bytesLess ((s.getD j c0).1) key && !decide (((s.getD j c0).1) = key)) with h_22 | h_22
      · have h_22d := h_22
        simp only [Bool.and_eq_true, Bool.and_eq_false_iff, decide_eq_true_eq, decide_eq_false_iff_not] at h_22d
        have hg : gtrB (s.getD j c0).1 key = true := h_22
        refine jQ (cB h_22) <| jC <| jF <| jA (jD (v := .slice xa o_.length xc) he_11) <| jA (jD (v := str key) he_8) <| jA (jD (v := str val) he_9) <| jA (PO.build (ps := [(0, str key), (1, str val)]) (cs := [str key, str val]) rfl (by kernel_rfl)) ?_
        refine jI rfl (jy (ps := [(0, .agg #[str key, str val])]) (cur := #[str key, str val]) kD kG kW rfl (by kernel_rfl) (by decide) (by decide)) ?_
        rintro _ _ ⟨a_23, rfl, rfl⟩
        refine jI rfl (JO.append' 1 (q := 1) (news := ([(key, val)] : List Cell).flatMap encC) (n' := (o_ ++ ([(key, val)] : List Cell)).length) (cs' := (o_ ++ ([(key, val)] : List Cell)).flatMap encC) rfl kD kD ka rfl (by' := 32) rfl rfl rfl rfl rfl (fun w hw => Src.sees (hw.see (i := 0) rfl) (oneC _)) (by (try simp only [LE]); omega) (by (try simp only [LE]); omega) (by simp only [List.length_append, List.length_take, List.length_drop, List.length_cons, List.length_nil] <;> first | rfl | omega) (by simp only [List.flatMap_append])) ?_
        rintro _ _ ⟨a_24, c_25, rfl, rfl⟩
        refine jA (jG (v := .slice a_24 ((o_ ++ ([(key, val)] : List Cell)).length) c_25) rfl) <| jE <| jB <| jF <| jA (jG (v := .bool true) rfl) <| jE <| jB <| jC <| jF <| jA (jD (v := .slice a s.length c) he_7) ?_
        refine jA (jD (v := nv j) he_13) <| jA (jV (i := j) kD kG hr_21 hr_21b rfl rfl (by omega)) <| jA (jX fo62_0 hr_21 rfl) <| jP (ji (v := str ((s.getD j c0).1)) hs_a nM rfl kH (atC1 (by omega))) <| jA (jD (v := str key) he_8) <| jA (kA rfl rfl) <| jE <| jB ?_
        by_cases h_26 : ((s.getD j c0).1) = key
        · have hk := h_26
          have hg2 : gtrB key key = true := hk ▸ hg
          refine jL (cB (cN (dT h_26))) <| jM <| jk <| jB <| jF <| jA (jD (v := nv j) he_13) <| jA (jT (c := ((j + 1 : Nat) : Int)) rfl rfl (wr (by omega))) <| jA (jG (v := iv ((j + 1 : Nat) : Int)) rfl) <| jE <| JQ.pick [1] (A := [Res.row (.slice a_24 ((o_ ++ ([(key, val)] : List Cell)).length) c_25) 62 2 ((o_ ++ ([(key, val)] : List Cell)).length) ((o_ ++ ([(key, val)] : List Cell)).flatMap encC)]) rfl ?_
          refine jl (s.length - (j + 1)) (by omega) ⟨j + 1, a_24, c_25, (o_ ++ ([(key, val)] : List Cell)), true, by omega, (by (try simp only [List.length_append, List.length_cons, List.length_nil]); omega), (by rw [putL_step hlt] at hR; simp only [hd, hg, hg2, hk, Bool.not_true, Bool.not_false, Bool.true_and, Bool.false_and, Bool.or_true, Bool.true_or, Bool.or_false, Bool.false_or, if_true, if_false, Bool.false_eq_true, List.nil_append, List.append_nil, List.append_assoc] at hR ⊢; exact hR), he_7, he_8, he_9, he_10, rfl, rfl, rfl, rfl, rfl⟩
        have hk := h_26
        refine jQ (cB (cN (dF h_26))) <| jF <| jA (jD (v := .slice a_24 ((o_ ++ ([(key, val)] : List Cell)).length) c_25) rfl) <| jA (jD (v := .slice a s.length c) he_7) <| jA (jD (v := nv j) he_13) <| jA (jV (i := j) kD kG hr_21 hr_21b rfl rfl (by omega)) <| jP (LO.loadSK (vs := [str ((s.getD j c0).1), str ((s.getD j c0).2)]) hs_a nM rfl Tryz.isAgg62 kG (atC (by omega)) rfl (by decide)) ?_
        refine jI rfl (jy (ps := [(0, .agg #[str ((s.getD j c0).1), str ((s.getD j c0).2)])]) (cur := #[str ((s.getD j c0).1), str ((s.getD j c0).2)]) kD kG kW rfl (by kernel_rfl) (by decide) (by decide)) ?_
        rintro _ _ ⟨a_27, rfl, rfl⟩
        refine jI rfl (JO.append' 2 (q := 1) (news := ([((s.getD j c0).1, (s.getD j c0).2)] : List Cell).flatMap encC) (n' := ((o_ ++ ([(key, val)] : List Cell)) ++ ([((s.getD j c0).1, (s.getD j c0).2)] : List Cell)).length) (cs' := ((o_ ++ ([(key, val)] : List Cell)) ++ ([((s.getD j c0).1, (s.getD j c0).2)] : List Cell)).flatMap encC) rfl kD kD ka rfl (by' := 32) rfl rfl rfl rfl rfl (fun w hw => Src.sees (hw.see (i := 0) rfl) (oneC _)) (by (try simp only [LE]); omega) (by (try simp only [LE]); omega) (by simp only [List.length_append, List.length_take, List.length_drop, List.length_cons, List.length_nil] <;> first | rfl | omega) (by simp only [List.flatMap_append])) ?_
        rintro _ _ ⟨a_28, c_29, rfl, rfl⟩
        refine jA (jG (v := .slice a_28 (((o_ ++ ([(key, val)] : List Cell)) ++ ([((s.getD j c0).1, (s.getD j c0).2)] : List Cell)).length) c_29) rfl) <| jE <| jk <| jB <| jF <| jA (jD (v := nv j) he_13) <| jA (jT (c := ((j + 1 : Nat) : Int)) rfl rfl (wr (by omega))) <| jA (jG (v := iv ((j + 1 : Nat) : Int)) rfl) <| jE <| JQ.pick [2] (A := [Res.row (.slice a_28 (((o_ ++ ([(key, val)] : List Cell)) ++ ([((s.getD j c0).1, (s.getD j c0).2)] : List Cell)).length) c_29) 62 2 (((o_ ++ ([(key, val)] : List Cell)) ++ ([((s.getD j c0).1, (s.getD j c0).2)] : List Cell)).length) (((o_ ++ ([(key, val)] : List Cell)) ++ ([((s.getD j c0).1, (s.getD j c0).2)] : List Cell)).flatMap encC)]) rfl ?_
        refine jl (s.length - (j + 1)) (by omega) ⟨j + 1, a_28, c_29, ((o_ ++ ([(key, val)] : List Cell)) ++ ([((s.getD j c0).1, (s.getD j c0).2)] : List Cell)), true, by omega, (by (try simp only [List.length_append, List.length_cons, List.length_nil]); omega), (by rw [putL_step hlt] at hR; simp only [hd, hg, hk, Bool.not_true, Bool.not_false, Bool.true_and, Bool.false_and, Bool.or_true, Bool.true_or, Bool.or_false, Bool.false_or, if_true, if_false, Bool.false_eq_true, List.nil_append, List.append_nil, List.append_assoc] at hR ⊢; exact hR), he_7, he_8, he_9, he_10, rfl, rfl, rfl, rfl, rfl⟩
      have h_22d := h_22
      simp only [Bool.and_eq_true, Bool.and_eq_false_iff, decide_eq_true_eq, decide_eq_false_iff_not] at h_22d
      have hg : gtrB (s.getD j c0).1 key = false := h_22
      refine jL (cB h_22) <| jM <| jB <| jC <| jF <| jA (jD (v := .slice a s.length c) he_7) <| jA (jD (v := nv j) he_13) <| jA (jV (i := j) kD kG hr_21 hr_21b rfl rfl (by omega)) <| jA (jX fo62_0 hr_21 rfl) <| jP (ji (v := str ((s.getD j c0).1)) hs_a nM rfl kH (atC1 (by omega))) ?_
      refine jA (jD (v := str key) he_8) <| jA (kA rfl rfl) <| jE <| jB ?_
      by_cases h_30 : ((s.getD j c0).1) = key
      · have hk := h_30
        have hg2 : gtrB key key = false := hk ▸ hg
        refine jL (cB (cN (dT h_30))) <| jM <| jk <| jB <| jF <| jA (jD (v := nv j) he_13) <| jA (jT (c := ((j + 1 : Nat) : Int)) rfl rfl (wr (by omega))) <| jA (jG (v := iv ((j + 1 : Nat) : Int)) rfl) <| jE <| JQ.pick [0] (A := [Res.row (.slice xa o_.length xc) 62 2 o_.length (o_.flatMap encC)]) rfl ?_
        refine jl (s.length - (j + 1)) (by omega) ⟨j + 1, xa, xc, o_, done, by omega, (by (try simp only [List.length_append, List.length_cons, List.length_nil]); omega), (by rw [putL_step hlt] at hR; simp only [hd, hg, hg2, hk, Bool.not_true, Bool.not_false, Bool.true_and, Bool.false_and, Bool.or_true, Bool.true_or, Bool.or_false, Bool.false_or, if_true, if_false, Bool.false_eq_true, List.nil_append, List.append_nil, List.append_assoc] at hR ⊢; exact hR), he_7, he_8, he_9, he_10, he_11, he_12, rfl, rfl, rfl⟩
      have hk := h_30
      refine jQ (cB (cN (dF h_30))) <| jF <| jA (jD (v := .slice xa o_.length xc) he_11) <| jA (jD (v := .slice a s.length c) he_7) <| jA (jD (v := nv j) he_13) <| jA (jV (i := j) kD kG hr_21 hr_21b rfl rfl (by omega)) <| jP (LO.loadSK (vs := [str ((s.getD j c0).1), str ((s.getD j c0).2)]) hs_a nM rfl Tryz.isAgg62 kG (atC (by omega)) rfl (by decide)) ?_
      refine jI rfl (jy (ps := [(0, .agg #[str ((s.getD j c0).1), str ((s.getD j c0).2)])]) (cur := #[str ((s.getD j c0).1), str ((s.getD j c0).2)]) kD kG kW rfl (by kernel_rfl) (by decide) (by decide)) ?_
      rintro _ _ ⟨a_31, rfl, rfl⟩
      refine jI rfl (JO.append' 1 (q := 1) (news := ([((s.getD j c0).1, (s.getD j c0).2)] : List Cell).flatMap encC) (n' := (o_ ++ ([((s.getD j c0).1, (s.getD j c0).2)] : List Cell)).length) (cs' := (o_ ++ ([((s.getD j c0).1, (s.getD j c0).2)] : List Cell)).flatMap encC) rfl kD kD ka rfl (by' := 32) rfl rfl rfl rfl rfl (fun w hw => Src.sees (hw.see (i := 0) rfl) (oneC _)) (by (try simp only [LE]); omega) (by (try simp only [LE]); omega) (by simp only [List.length_append, List.length_take, List.length_drop, List.length_cons, List.length_nil] <;> first | rfl | omega) (by simp only [List.flatMap_append])) ?_
      rintro _ _ ⟨a_32, c_33, rfl, rfl⟩
      refine jA (jG (v := .slice a_32 ((o_ ++ ([((s.getD j c0).1, (s.getD j c0).2)] : List Cell)).length) c_33) rfl) <| jE <| jk <| jB <| jF <| jA (jD (v := nv j) he_13) <| jA (jT (c := ((j + 1 : Nat) : Int)) rfl rfl (wr (by omega))) <| jA (jG (v := iv ((j + 1 : Nat) : Int)) rfl) <| jE <| JQ.pick [1] (A := [Res.row (.slice a_32 ((o_ ++ ([((s.getD j c0).1, (s.getD j c0).2)] : List Cell)).length) c_33) 62 2 ((o_ ++ ([((s.getD j c0).1, (s.getD j c0).2)] : List Cell)).length) ((o_ ++ ([((s.getD j c0).1, (s.getD j c0).2)] : List Cell)).flatMap encC)]) rfl ?_
      refine jl (s.length - (j + 1)) (by omega) ⟨j + 1, a_32, c_33, (o_ ++ ([((s.getD j c0).1, (s.getD j c0).2)] : List Cell)), done, by omega, (by (try simp only [List.length_append, List.length_cons, List.length_nil]); omega), (by rw [putL_step hlt] at hR; simp only [hd, hg, hk, Bool.not_true, Bool.not_false, Bool.true_and, Bool.false_and, Bool.or_true, Bool.true_or, Bool.or_false, Bool.false_or, if_true, if_false, Bool.false_eq_true, List.nil_append, List.append_nil, List.append_assoc] at hR ⊢; exact hR), he_7, he_8, he_9, he_10, rfl, he_12, rfl, rfl, rfl⟩
    refine jL (cB (dF h_14)) <| jm <| jY <| jY <| jn <| jB <| jC <| jC <| jF <| jA (jD (v := .bool done) he_12) ?_
    refine jA (jq rfl) <| jE <| jB ?_
    rcases Bool.eq_false_or_eq_true (done) with h_34 | h_34
    · have hd := h_34
      refine jL (cB (cN h_34)) <| jM <| jB <| jC <| jF <| jA (jD (v := .slice xa o_.length xc) he_11) <| jA (jG (v := .slice xa o_.length xc) rfl) <| jE <| jB <| jK ?_
      refine jN (.inl rfl) rfl (jJ (v := .slice xa o_.length xc) rfl) (List.Sublist.refl _) ?_
      rw [List.drop_of_length_le (by omega), putL] at hR
      simp only [hd, Bool.not_true, Bool.not_false, Bool.true_and, Bool.false_and, Bool.or_true, Bool.true_or, Bool.or_false, Bool.false_or, if_true, if_false, Bool.false_eq_true, List.nil_append, List.append_nil, List.append_assoc] at hR
      exact ⟨_, _, by rw [← hR] <;> rfl, by rw [← hR] <;> rfl⟩
    have hd := h_34
    refine jQ (cB (cN h_34)) <| jF <| jA (jD (v := .slice xa o_.length xc) he_11) <| jA (jD (v := str key) he_8) <| jA (jD (v := str val) he_9) <| jA (PO.build (ps := [(0, str key), (1, str val)]) (cs := [str key, str val]) rfl (by kernel_rfl)) ?_
    refine jI rfl (jy (ps := [(0, .agg #[str key, str val])]) (cur := #[str key, str val]) kD kG kW rfl (by kernel_rfl) (by decide) (by decide)) ?_
    rintro _ _ ⟨a_35, rfl, rfl⟩
    refine jI rfl (JO.append' 1 (q := 1) (news := ([(key, val)] : List Cell).flatMap encC) (n' := (o_ ++ ([(key, val)] : List Cell)).length) (cs' := (o_ ++ ([(key, val)] : List Cell)).flatMap encC) rfl kD kD ka rfl (by' := 32) rfl rfl rfl rfl rfl (fun w hw => Src.sees (hw.see (i := 0) rfl) (oneC _)) (by (try simp only [LE]); omega) (by (try simp only [LE]); omega) (by simp only [List.length_append, List.length_take, List.length_drop, List.length_cons, List.length_nil] <;> first | rfl | omega) (by simp only [List.flatMap_append])) ?_
    rintro _ _ ⟨a_36, c_37, rfl, rfl⟩
    refine jA (jG (v := .slice a_36 ((o_ ++ ([(key, val)] : List Cell)).length) c_37) rfl) <| jE <| jB <| jC <| jF <| jA (jD (v := .slice a_36 ((o_ ++ ([(key, val)] : List Cell)).length) c_37) rfl) <| jA (jG (v := .slice a_36 ((o_ ++ ([(key, val)] : List Cell)).length) c_37) rfl) <| jE <| jB <| jK ?_
    refine JQ.perm (pick_perm [1] (A := [Res.row (.slice a_36 ((o_ ++ ([(key, val)] : List Cell)).length) c_37) 62 2 ((o_ ++ ([(key, val)] : List Cell)).length) ((o_ ++ ([(key, val)] : List Cell)).flatMap encC)]) (F := [Res.row (.slice a_35 1 1) 62 2 1 (([(key, val)] : List Cell).flatMap encC)]) rfl).symm <| jN (.inl rfl) rfl (jJ (v := .slice a_36 ((o_ ++ ([(key, val)] : List Cell)).length) c_37) rfl) (tS 1 _) ?_
    rw [List.drop_of_length_le (by omega), putL] at hR
    simp only [hd, Bool.not_true, Bool.not_false, Bool.true_and, Bool.false_and, Bool.or_true, Bool.true_or, Bool.or_false, Bool.false_or, if_true, if_false, Bool.false_eq_true, List.nil_append, List.append_nil, List.append_assoc] at hR
    exact ⟨_, _, by rw [← hR] <;> rfl, by rw [← hR] <;> rfl⟩
  refine ja (b := true) rfl rfl rfl (cB (cN h_2)) <| ja (b := true) rfl rfl rfl (cB (cN h_2)) <| ja (b := true) rfl rfl rfl (cB (cN h_2)) <| jA (PO.pickT (v := .bool true) (cB (cN h_2)) rfl) <| jE <| jB <| jQ (cB rfl) <| jC <| jF <| jA (jD (v := .slice a_1 0 0) rfl) ?_
  refine jA (jD (v := .slice a s.length c) rfl) ?_
  refine jI rfl (JO.append' 0 (q := s.length) (news := s.flatMap encC) (n' := s.length) (cs' := s.flatMap encC) rfl kD kD ka rfl (by' := 32) rfl rfl rfl rfl rfl (fun w hw => Src.sees (hw.seeOut_ hs_a nM) (oneC _)) (by (try simp only [LE]); omega) (by (try simp only [LE]); omega) (by (try simp only [List.length_take, List.length_drop]); first | rfl | omega) rfl) ?_
  rintro _ _ ⟨a_38, c_39, rfl, rfl⟩
  refine jA (jG (v := .slice a_38 s.length c_39) rfl) <| jE <| jB <| jK <| jO <| jN (.inl rfl) rfl (jJ (v := .slice a_38 s.length c_39) rfl) (List.Sublist.refl _) ?_
  have he := (putKey_bad1 h_2 : putKey s key val = _)
  exact ⟨_, _, by rw [he] <;> rfl, by rw [he] <;> rfl⟩

theorem C_l02Put (a : Option Addr) (c : Nat) (l : List Str) (x : Str) (hn : l.length ≤ 100000000000) :
    Ct Tryz.prog 87 [.slice a l.length c, str x] [] (fun w_ => Sees w_ (.slice a l.length c) 1 l.length (l.map str)) (fun v A' => (v = .slice a l.length c ∧ addSpan l x = l ∧ A' = []) ∨ ∃ a' c', v = .slice a' (addSpan l x).length c' ∧ A' = [.row (.slice a' (addSpan l x).length c') 9 1 (addSpan l x).length ((addSpan l x).map str)]) := by
  refine Ct.intro Tryz.func87 rfl Tryz.ntmps87 (lb rfl) fun w0 hpre => ?_
  have hs_a : Sees w0 _ _ _ _ := hpre
  refine jC <| jF <| jA (jG (v := .slice none 0 0) rfl) <| jE <| jB <| jC <| jF <| jA (jG (v := iv 0) rfl) <| jE <| jB ?_
  refine jC <| jZ <| jo (fun k_ e_ L_ => ∃ j : Nat, (j ≤ l.length) ∧ (∀ i, i < j → geqB (l.getD i []) x = false) ∧ e_ 0 = .slice a l.length c ∧ e_ 1 = str x ∧ e_ 4 = .slice none 0 0 ∧ e_ 5 = nv j ∧ L_ = [] ∧ k_ = l.length - j) _ ⟨0, by omega, (fun i hi => absurd hi (Nat.not_lt_zero i)), rfl, rfl, rfl, rfl, rfl, rfl⟩ ?_
  rintro _ e_1 _ ⟨j, hj, hN, he_2, he_3, he_4, he_5, rfl, rfl⟩
  refine jC <| jC <| jF <| jA (jD (v := nv j) he_5) <| jA (jD (v := .slice a l.length c) he_2) <| jA (jh kF rfl) <| jA (jb rfl rfl) <| jA (jD (v := .bool (decide (((j : Nat) : Int) < ((l.length : Nat) : Int)))) rfl) ?_
  by_cases h_6 : ((j : Nat) : Int) < ((l.length : Nat) : Int)
  · have hlt : j < l.length := by omega
    refine jd rfl rfl rfl (cB (dT h_6)) (jg (jj (jD (v := .slice a l.length c) he_2))) ?_
    rintro _ _ ⟨rfl, rfl⟩
    refine jd rfl rfl rfl (cB (dT h_6)) (jg (jj (jD (v := nv j) he_5))) ?_
    rintro _ _ ⟨rfl, rfl⟩
    obtain ⟨hr_7, hr_7b, -⟩ := sees_some hs_a (by omega)
    refine jd rfl rfl rfl (cB (dT h_6)) (jg (jj (jV (i := j) kF kI hr_7 hr_7b rfl rfl (by omega)))) ?_
    rintro _ _ ⟨rfl, rfl⟩
    refine jd rfl rfl rfl (cB (dT h_6)) (jg (ji (v := str (l.getD j [])) hs_a nM rfl kH (atS (by omega)))) ?_
    rintro _ _ ⟨rfl, rfl⟩
    refine jd rfl rfl rfl (cB (dT h_6)) (jg (jj (jD (v := str x) he_3))) ?_
    rintro _ _ ⟨rfl, rfl⟩
    refine jd rfl rfl rfl (cB (dT h_6)) (jg (jj (PO.lssS rfl rfl))) ?_
    rintro _ _ ⟨rfl, rfl⟩
    refine jA (PO.pickT (v := .bool (Op.bytesLess (l.getD j []) x)) (cB (dT h_6)) rfl) <| jE <| jB ?_
    rcases Bool.eq_false_or_eq_true (Op.bytesLess (l.getD j []) x) with h_8 | h_8
    · have hls := h_8
      refine jQ (cB h_8) <| jM <| jB <| jZ <| jF <| jA (jD (v := nv j) he_5) <| jA (jT (c := ((j + 1 : Nat) : Int)) rfl rfl (wr (by omega))) <| jA (jG (v := iv ((j + 1 : Nat) : Int)) rfl) <| jE <| jk ?_
      refine jl (l.length - (j + 1)) (by omega) ⟨j + 1, by omega, (fun i hi => if h : i = j then h ▸ (by rw [geqB, hls]; rfl) else hN i (by omega)), he_2, he_3, he_4, rfl, rfl, rfl⟩
    have hls := h_8
    have hge : geqB (l.getD j []) x = true := by rw [geqB, hls]; rfl
    refine jL (cB h_8) <| jm <| jY <| jY <| jn <| jB <| jC <| jC <| jF <| jA (jD (v := nv j) he_5) ?_
    refine jA (jD (v := .slice a l.length c) he_2) <| jA (jh kF rfl) <| jA (jb rfl rfl) <| jA (jD (v := .bool (decide (((j : Nat) : Int) < ((l.length : Nat) : Int)))) rfl) <| jd rfl rfl rfl (cB (dT h_6)) (jg (jj (jD (v := .slice a l.length c) he_2))) ?_
    rintro _ _ ⟨rfl, rfl⟩
    refine jd rfl rfl rfl (cB (dT h_6)) (jg (jj (jD (v := nv j) he_5))) ?_
    rintro _ _ ⟨rfl, rfl⟩
    refine jd rfl rfl rfl (cB (dT h_6)) (jg (jj (jV (i := j) kF kI hr_7 hr_7b rfl rfl (by omega)))) ?_
    rintro _ _ ⟨rfl, rfl⟩
    refine jd rfl rfl rfl (cB (dT h_6)) (jg (ji (v := str (l.getD j [])) hs_a nM rfl kH (atS (by omega)))) ?_
    rintro _ _ ⟨rfl, rfl⟩
    refine jd rfl rfl rfl (cB (dT h_6)) (jg (jj (jD (v := str x) he_3))) ?_
    rintro _ _ ⟨rfl, rfl⟩
    refine jd rfl rfl rfl (cB (dT h_6)) (jg (jj (PO.eqlS rfl rfl))) ?_
    rintro _ _ ⟨rfl, rfl⟩
    refine jA (PO.pickT (v := .bool (decide ((l.getD j []) = x))) (cB (dT h_6)) rfl) <| jE <| jB ?_
    by_cases h_9 : (l.getD j []) = x
    · have hex := h_9
      refine jQ (cB (dT h_9)) <| jC <| jF <| jA (jD (v := .slice a l.length c) he_2) <| jA (jG (v := .slice a l.length c) rfl) <| jE <| jB <| jK <| jO <| jN (.inl rfl) rfl (jJ (v := .slice a l.length c) rfl) (List.nil_sublist _) ?_
      exact .inl ⟨rfl, addSpan_put_same hlt hN hge hex, rfl⟩
    have hex := h_9
    refine jL (cB (dF h_9)) <| jM <| jB <| jC <| jF ?_
    refine jI rfl (jy (ps := []) (cur := #[]) kF kI Tryz.zeroValue9 rfl (by kernel_rfl) (by decide) (by decide)) ?_
    rintro _ _ ⟨a_10, rfl, rfl⟩
    refine jA (jD (v := .slice a l.length c) he_2) <| jA (jD (v := nv j) he_5) ?_
    obtain ⟨hf_11m, hf_11x, hf_11s, hf_11l⟩ := sees_fits hs_a
    refine jA (PO.sliceVh (j := j) kF kI hf_11s rfl rfl (by omega)) ?_
    refine jI rfl (JO.append' 0 (q := j) (news := (l.take j).map str) (n' := (l.take j).length) (cs' := (l.take j).map str) rfl kF kF Tryz.typeInfo9 rfl (by' := 16) rfl rfl rfl rfl rfl (fun w hw => Src.sees (hiS (hw.seeOut_ hs_a nM) j (by omega)) (oneS _)) (by (try simp only [LE]); omega) (by (try simp only [LE]); omega) (by (try simp only [List.length_take, List.length_drop]); first | rfl | omega) rfl) ?_
    rintro _ _ ⟨a_12, c_13, rfl, rfl⟩
    refine jA (jD (v := str x) he_3) ?_
    refine jI rfl (jy (ps := [(0, str x)]) (cur := #[str x]) kF kI Tryz.zeroValue9 rfl (by kernel_rfl) (by decide) (by decide)) ?_
    rintro _ _ ⟨a_14, rfl, rfl⟩
    refine jI rfl (JO.append' 1 (q := 1) (news := ([x] : List Str).map str) (n' := (l.take j ++ ([x] : List Str)).length) (cs' := (l.take j ++ ([x] : List Str)).map str) rfl kF kF Tryz.typeInfo9 rfl (by' := 16) rfl rfl rfl rfl rfl (fun w hw => Src.sees (hw.see (i := 0) rfl) (oneS _)) (by (try simp only [LE]); omega) (by (try simp only [LE]); omega) (by simp only [List.length_append, List.length_take, List.length_drop, List.length_cons, List.length_nil] <;> first | rfl | omega) (by simp only [List.map_append])) ?_
    rintro _ _ ⟨a_15, c_16, rfl, rfl⟩
    refine jA (jG (v := .slice a_15 ((l.take j ++ ([x] : List Str)).length) c_16) rfl) <| jE <| jB <| jC <| jF <| jA (jD (v := .slice a_15 ((l.take j ++ ([x] : List Str)).length) c_16) rfl) <| jA (jD (v := .slice a l.length c) he_2) <| jA (jD (v := nv j) he_5) <| jA (PO.sliceVl (i := j) kF kI hf_11s rfl rfl (by omega)) ?_
    refine jI rfl (JO.append' 1 (q := (l.length - j)) (news := ((l.drop j).take (l.length - j)).map str) (n' := ((l.take j ++ ([x] : List Str)) ++ (l.drop j).take (l.length - j)).length) (cs' := ((l.take j ++ ([x] : List Str)) ++ (l.drop j).take (l.length - j)).map str) rfl kF kF Tryz.typeInfo9 rfl (by' := 16) rfl rfl rfl rfl rfl (fun w hw => Src.sees (subS (hw.seeOut_ hs_a nM) j l.length (by omega) (by omega)) (oneS _)) (by (try simp only [LE]); omega) (by (try simp only [LE]); omega) (by simp only [List.length_append, List.length_take, List.length_drop, List.length_cons, List.length_nil] <;> first | rfl | omega) (by simp only [List.map_append])) ?_
    rintro _ _ ⟨a_17, c_18, rfl, rfl⟩
    refine jA (jG (v := .slice a_17 (((l.take j ++ ([x] : List Str)) ++ (l.drop j).take (l.length - j)).length) c_18) rfl) <| jE <| jB <| jK <| JQ.perm (pick_perm [1] (A := [Res.row (.slice a_17 (((l.take j ++ ([x] : List Str)) ++ (l.drop j).take (l.length - j)).length) c_18) 9 1 (((l.take j ++ ([x] : List Str)) ++ (l.drop j).take (l.length - j)).length) (((l.take j ++ ([x] : List Str)) ++ (l.drop j).take (l.length - j)).map str)]) (F := [Res.row (.slice a_14 1 1) 9 1 1 (([x] : List Str).map str)]) rfl).symm <| jN (.inl rfl) rfl (jJ (v := .slice a_17 (((l.take j ++ ([x] : List Str)) ++ (l.drop j).take (l.length - j)).length) c_18) rfl) (tS 1 _) ?_
    have he := addSpan_put_ins hlt hN hge hex
    exact .inr ⟨_, _, by rw [← he] <;> rfl, by rw [← he] <;> rfl⟩
  refine ja (b := false) rfl rfl rfl (cB (dF h_6)) <| ja (b := false) rfl rfl rfl (cB (dF h_6)) <| ja (b := false) rfl rfl rfl (cB (dF h_6)) <| ja (b := false) rfl rfl rfl (cB (dF h_6)) <| ja (b := false) rfl rfl rfl (cB (dF h_6)) <| ja (b := false) rfl rfl rfl (cB (dF h_6)) <| jA (PO.pickF (v := .bool false) (cB (dF h_6)) rfl) <| jE <| jB <| jL (cB rfl) ?_
  refine jm <| jY <| jY <| jn <| jB <| jC <| jC <| jF <| jA (jD (v := nv j) he_5) <| jA (jD (v := .slice a l.length c) he_2) ?_
  refine jA (jh kF rfl) <| jA (jb rfl rfl) <| jA (jD (v := .bool (decide (((j : Nat) : Int) < ((l.length : Nat) : Int)))) rfl) <| ja (b := false) rfl rfl rfl (cB (dF h_6)) <| ja (b := false) rfl rfl rfl (cB (dF h_6)) <| ja (b := false) rfl rfl rfl (cB (dF h_6)) <| ja (b := false) rfl rfl rfl (cB (dF h_6)) <| ja (b := false) rfl rfl rfl (cB (dF h_6)) <| ja (b := false) rfl rfl rfl (cB (dF h_6)) <| jA (PO.pickF (v := .bool false) (cB (dF h_6)) rfl) ?_
  refine jE <| jB <| jL (cB rfl) <| jM <| jB <| jC <| jF ?_
  refine jI rfl (jy (ps := []) (cur := #[]) kF kI Tryz.zeroValue9 rfl (by kernel_rfl) (by decide) (by decide)) ?_
  rintro _ _ ⟨a_19, rfl, rfl⟩
  refine jA (jD (v := .slice a l.length c) he_2) <| jA (jD (v := nv j) he_5) ?_
  obtain ⟨hf_20m, hf_20x, hf_20s, hf_20l⟩ := sees_fits hs_a
  refine jA (PO.sliceVh (j := j) kF kI hf_20s rfl rfl (by omega)) ?_
  refine jI rfl (JO.append' 0 (q := j) (news := (l.take j).map str) (n' := (l.take j).length) (cs' := (l.take j).map str) rfl kF kF Tryz.typeInfo9 rfl (by' := 16) rfl rfl rfl rfl rfl (fun w hw => Src.sees (hiS (hw.seeOut_ hs_a nM) j (by omega)) (oneS _)) (by (try simp only [LE]); omega) (by (try simp only [LE]); omega) (by (try simp only [List.length_take, List.length_drop]); first | rfl | omega) rfl) ?_
  rintro _ _ ⟨a_21, c_22, rfl, rfl⟩
  refine jA (jD (v := str x) he_3) ?_
  refine jI rfl (jy (ps := [(0, str x)]) (cur := #[str x]) kF kI Tryz.zeroValue9 rfl (by kernel_rfl) (by decide) (by decide)) ?_
  rintro _ _ ⟨a_23, rfl, rfl⟩
  refine jI rfl (JO.append' 1 (q := 1) (news := ([x] : List Str).map str) (n' := (l.take j ++ ([x] : List Str)).length) (cs' := (l.take j ++ ([x] : List Str)).map str) rfl kF kF Tryz.typeInfo9 rfl (by' := 16) rfl rfl rfl rfl rfl (fun w hw => Src.sees (hw.see (i := 0) rfl) (oneS _)) (by (try simp only [LE]); omega) (by (try simp only [LE]); omega) (by simp only [List.length_append, List.length_take, List.length_drop, List.length_cons, List.length_nil] <;> first | rfl | omega) (by simp only [List.map_append])) ?_
  rintro _ _ ⟨a_24, c_25, rfl, rfl⟩
  refine jA (jG (v := .slice a_24 ((l.take j ++ ([x] : List Str)).length) c_25) rfl) <| jE <| jB <| jC <| jF <| jA (jD (v := .slice a_24 ((l.take j ++ ([x] : List Str)).length) c_25) rfl) <| jA (jD (v := .slice a l.length c) he_2) <| jA (jD (v := nv j) he_5) <| jA (PO.sliceVl (i := j) kF kI hf_20s rfl rfl (by omega)) ?_
  refine jI rfl (JO.append' 1 (q := (l.length - j)) (news := ((l.drop j).take (l.length - j)).map str) (n' := ((l.take j ++ ([x] : List Str)) ++ (l.drop j).take (l.length - j)).length) (cs' := ((l.take j ++ ([x] : List Str)) ++ (l.drop j).take (l.length - j)).map str) rfl kF kF Tryz.typeInfo9 rfl (by' := 16) rfl rfl rfl rfl rfl (fun w hw => Src.sees (subS (hw.seeOut_ hs_a nM) j l.length (by omega) (by omega)) (oneS _)) (by (try simp only [LE]); omega) (by (try simp only [LE]); omega) (by simp only [List.length_append, List.length_take, List.length_drop, List.length_cons, List.length_nil] <;> first | rfl | omega) (by simp only [List.map_append])) ?_
  rintro _ _ ⟨a_26, c_27, rfl, rfl⟩
  refine jA (jG (v := .slice a_26 (((l.take j ++ ([x] : List Str)) ++ (l.drop j).take (l.length - j)).length) c_27) rfl) <| jE <| jB <| jK <| JQ.perm (pick_perm [1] (A := [Res.row (.slice a_26 (((l.take j ++ ([x] : List Str)) ++ (l.drop j).take (l.length - j)).length) c_27) 9 1 (((l.take j ++ ([x] : List Str)) ++ (l.drop j).take (l.length - j)).length) (((l.take j ++ ([x] : List Str)) ++ (l.drop j).take (l.length - j)).map str)]) (F := [Res.row (.slice a_23 1 1) 9 1 1 (([x] : List Str).map str)]) rfl).symm <| jN (.inl rfl) rfl (jJ (v := .slice a_26 (((l.take j ++ ([x] : List Str)) ++ (l.drop j).take (l.length - j)).length) c_27) rfl) (tS 1 _) ?_
  have he := addSpan_put_end (by omega) hj hN
  exact .inr ⟨_, _, by rw [← he] <;> rfl, by rw [← he] <;> rfl⟩

theorem C_sAddSpan (a : Option Addr) (c : Nat) (l : List Str) (x : Str) (hn : l.length ≤ 10000000000) :
    Ct Tryz.prog 77 [.slice a l.length c, str x] [] (fun w_ => Sees w_ (.slice a l.length c) 1 l.length (l.map str)) (fun v A' => ∃ a' c', v = .slice a' (addSpan l x).length c' ∧ A' = [.row (.slice a' (addSpan l x).length c') 9 1 (addSpan l x).length ((addSpan l x).map str)]) := by
  refine Ct.intro Tryz.func77 rfl Tryz.ntmps77 (lb rfl) fun w0 hpre => ?_
  have hs_a : Sees w0 _ _ _ _ := hpre
  refine jC <| jF <| jA (jG (v := .slice none 0 0) rfl) <| jE <| jB <| jC <| jF ?_
  refine jI rfl (jy (ps := []) (cur := #[]) kF kI Tryz.zeroValue9 rfl (by kernel_rfl) (by decide) (by decide)) ?_
  rintro _ _ ⟨a_1, rfl, rfl⟩
  refine jA (jD (v := .slice a l.length c) rfl) <| jA (jD (v := str x) rfl) ?_
  refine jI rfl (jR [] Tryz.call87 rfl (C_l02Put a c l x (by omega)) rfl (fun w hw => hw.seeOut_ hs_a nM)) ?_
  rintro _ _ ⟨_, ⟨rfl, hsame, rfl⟩ | ⟨a_2, c_3, rfl, rfl⟩, rfl⟩
  · have hal3 := addSpan_len l x
    refine jI rfl (JO.append' 0 (q := l.length) (news := l.map str) (n' := l.length) (cs' := l.map str) rfl kF kF Tryz.typeInfo9 rfl (by' := 16) rfl rfl rfl rfl rfl (fun w hw => Src.sees (hw.seeOut_ hs_a nM) (oneS _)) (by (try simp only [LE]); omega) (by (try simp only [LE]); omega) (by (try simp only [List.length_take, List.length_drop]); first | rfl | omega) rfl) ?_
    rintro _ _ ⟨a_4, c_5, rfl, rfl⟩
    refine jA (jG (v := .slice a_4 l.length c_5) rfl) <| jE <| jB <| jK <| jN (.inl rfl) rfl (jJ (v := .slice a_4 l.length c_5) rfl) (List.Sublist.refl _) ?_
    exact ⟨_, _, by rw [hsame] <;> rfl, by rw [hsame] <;> rfl⟩
  have hal3 := addSpan_len l x
  refine jI rfl (JO.append' 1 (q := ((addSpan l x).length)) (news := (addSpan l x).map str) (n' := (addSpan l x).length) (cs' := (addSpan l x).map str) rfl kF kF Tryz.typeInfo9 rfl (by' := 16) rfl rfl rfl rfl rfl (fun w hw => Src.sees (hw.see (i := 0) rfl) (oneS _)) (by (try simp only [LE]); omega) (by (try simp only [LE]); omega) (by (try simp only [List.length_take, List.length_drop]); first | rfl | omega) rfl) ?_
  rintro _ _ ⟨a_6, c_7, rfl, rfl⟩
  refine jA (jG (v := .slice a_6 ((addSpan l x).length) c_7) rfl) <| jE <| jB <| jK <| JQ.perm (pick_perm [1] (A := [Res.row (.slice a_6 ((addSpan l x).length) c_7) 9 1 ((addSpan l x).length) ((addSpan l x).map str)]) (F := [Res.row (.slice a_2 ((addSpan l x).length) c_3) 9 1 ((addSpan l x).length) ((addSpan l x).map str)]) rfl).symm <| jN (.inl rfl) rfl (jJ (v := .slice a_6 ((addSpan l x).length) c_7) rfl) (tS 1 _) ?_
  exact ⟨_, _, rfl, rfl⟩

theorem C_figure (d : Nat) (hd : d < 10) :
    Ct Tryz.prog 81 [.int .i64 ((d : Nat) : Int)] [] (fun _ => True) (fun v A' => v = .int .u8 ((48 + d : Nat) : Int) ∧ A' = []) := by
  refine Ct.intro Tryz.func81 rfl Tryz.ntmps81 (lb rfl) fun w0 hpre => ?_
  refine jC <| jF <| jA (jG (v := .int .u8 0) rfl) <| jE <| jB <| jC <| jC <| jF <| jA (jD (v := nv d) rfl) <| jA (jb rfl rfl) ?_
  refine jE <| jB ?_
  by_cases h_1 : ((d : Nat) : Int) < 10
  · refine jQ (cB (dT h_1)) <| jC <| jF <| jA (jD (v := nv d) rfl) <| jA (jT (c := ((48 + d : Nat) : Int)) rfl rfl (wr (by omega))) <| jA (PO.convI (c := ((48 + d : Nat) : Int)) Tryz.underlying3 Tryz.underlying5 rfl (wr8 (by omega))) <| jA (jG (v := .int .u8 ((48 + d : Nat) : Int)) rfl) <| jE <| jB <| jK ?_
    refine jO <| jN (.inl rfl) rfl (jJ (v := .int .u8 ((48 + d : Nat) : Int)) rfl) (List.nil_sublist _) ?_
    exact ⟨rfl, rfl⟩
  exfalso; omega

theorem C_sDecN (k : Nat) (h1 : k ≤ 1000000000000000000) :
    Ct Tryz.prog 65 [.int .i64 ((k : Nat) : Int)] [] (fun _ => True) (fun v A' => v = str (dec ((k : Nat) : Int)) ∧ A' = []) := by
  refine Ct.intro Tryz.func65 rfl Tryz.ntmps65 (lb rfl) fun w0 hpre => ?_
  refine jC <| jF <| jA (jG (v := str []) rfl) <| jE <| jB <| jC <| jC <| jF <| jA (jD (v := nv k) rfl) <| jA (PO.eqlI rfl rfl) ?_
  refine jE <| jB ?_
  by_cases h_1 : ((k : Nat) : Int) = 0
  · refine jQ (cB (dT h_1)) <| jC <| jF <| jA (jG (v := str [48]) rfl) <| jE <| jB <| jK <| jO <| jN (.inl rfl) rfl (jJ (v := str [48]) rfl) (List.nil_sublist _) ?_
    refine ⟨?_, rfl⟩
    rw [show ((k : Nat) : Int) = 0 by omega, dec_zero]
  refine jL (cB (dF h_1)) <| jM <| jB <| jC <| jF <| jA (jD (v := nv k) rfl) <| jA (jb rfl rfl) <| jA (jG (v := .bool (decide (((k : Nat) : Int) < 0))) rfl) <| jE <| jB ?_
  refine jC <| jF <| jA (jG (v := str []) rfl) <| jE <| jB <| jC <| jZ <| jo (fun k_ e_ L_ => ∃ k1 : Nat, ∃ o_ : Str, (k1 ≤ k) ∧ (o_.length + k1 ≤ k) ∧ (mtAcc k1 o_ = mtAcc k []) ∧ e_ 0 = nv k1 ∧ e_ 2 = str [] ∧ e_ 3 = .bool (decide (((k : Nat) : Int) < 0)) ∧ e_ 4 = str o_ ∧ L_ = [] ∧ k_ = k1 + 1) _ ⟨k, [], by omega, (by simp), rfl, rfl, rfl, rfl, rfl, rfl, rfl⟩ ?_
  rintro _ e_2 _ ⟨k1, o_, hk, hl, hR, he_3, he_4, he_5, he_6, rfl, rfl⟩
  refine jC <| jC <| jF <| jA (jD (v := nv k1) he_3) <| jA (jf rfl rfl) <| jE <| jB ?_
  by_cases h_7 : ((k1 : Nat) : Int) = 0
  · refine jL (cB (cN (dT h_7))) <| jm <| jY <| jY <| jn <| jB <| jC <| jC <| jF <| jA (jD (v := .bool (decide (((k : Nat) : Int) < 0))) he_5) ?_
    refine jE <| jB ?_
    by_cases h_8 : ((k : Nat) : Int) < 0
    · exfalso; omega
    refine jL (cB (dF h_8)) <| jM <| jB <| jC <| jF <| jA (jD (v := str o_) he_6) <| jA (jG (v := str o_) rfl) <| jE <| jB <| jK ?_
    refine jN (.inl rfl) rfl (jJ (v := str o_) rfl) (List.nil_sublist _) ?_
    refine ⟨?_, rfl⟩
    rw [dec_nat (by omega), ← hR, mtAcc_zero (by omega)]
  refine jQ (cB (cN (dF h_7))) <| jM <| jB <| jZ <| jC <| jF <| jA (jD (v := nv k1) he_3) <| jA (PO.remN (c := ((k1 % 10 : Nat) : Int)) rfl rfl (by omega) (by omega) (by omega)) <| jA (jG (v := iv ((k1 % 10 : Nat) : Int)) rfl) <| jE ?_
  refine jB <| jC <| jC <| jF <| jA (jD (v := iv ((k1 % 10 : Nat) : Int)) rfl) <| jA (jb rfl rfl) <| jE <| jB ?_
  by_cases h_9 : ((k1 % 10 : Nat) : Int) < 0
  · exfalso; omega
  refine jL (cB (dF h_9)) <| jM <| jB <| jC <| jF <| jA (jD (v := iv ((k1 % 10 : Nat) : Int)) rfl) ?_
  refine jI rfl (jR [] Tryz.call81 rfl (C_figure (k1 % 10) (by omega)) rfl (fun _ _ => trivial)) ?_
  rintro _ _ ⟨_, ⟨rfl, rfl⟩, rfl⟩
  refine jI rfl (jy (ps := [(0, .int .u8 ((48 + (k1 % 10) : Nat) : Int))]) (cur := #[.int .u8 ((48 + (k1 % 10) : Nat) : Int)]) Tryz.underlying95 Tryz.sizeOf5 Tryz.zeroValue5 rfl (by kernel_rfl) (by decide) (by decide)) ?_
  rintro _ _ ⟨a_10, rfl, rfl⟩
  refine jP (LO.toStr 0 [UInt8.ofNat (48 + (k1 % 10))] rfl Tryz.underlying95 Tryz.underlying5 kN rfl (by rw [List.map_cons, List.map_nil, encB_of _ (by omega)])) <| jA (jD (v := str o_) he_6) <| jA (PO.addS rfl rfl (by (try simp only [List.length_append, List.length_cons, List.length_nil, List.length_drop, List.length_take]); omega)) <| jA (jG (v := str ([UInt8.ofNat (48 + (k1 % 10))] ++ o_)) rfl) <| jE <| jB <| jF <| jA (jD (v := nv k1) he_3) <| jA (PO.quoN (c := ((k1 / 10 : Nat) : Int)) rfl rfl (by omega) (by omega) (by omega) (wr (by omega))) <| jA (jG (v := iv ((k1 / 10 : Nat) : Int)) rfl) ?_
  refine jE <| jk <| JQ.pick [] (A := []) rfl ?_
  refine jl (k1 / 10 + 1) (by omega) ⟨(k1 / 10), [UInt8.ofNat (48 + (k1 % 10))] ++ o_, by omega, (by simp only [List.length_append, List.length_cons, List.length_nil]; omega), (by rw [mtAcc_step (by omega)]; exact hR), rfl, he_4, he_5, rfl, rfl, rfl⟩

theorem C_sDec (n : Int) (h0 : 0 ≤ n) (h1 : n ≤ 1000000000000000000) : Ct Tryz.prog 65 [.int .i64 n] [] (fun _ => True) (fun v A' => v = str (dec n) ∧ A' = []) := by
  have := C_sDecN n.toNat (by omega)
  rw [Int.toNat_of_nonneg h0] at this
  exact this

end Go.Proofs.YtkmpmjficoohkaaGreatDoor

set_option linter.unusedSimpArgs false
set_option linter.unusedVariables false
set_option linter.unnecessarySimpa false
namespace Go.Proofs.YtkmpmjficoohkaaGreatDoor
open Go Go.RowKit
attribute [local irreducible] JL JC JQ JO LO PO JA JX Ct

theorem C_sReadDec (t : Str) (ht : t.length ≤ 281474976710656) :
    Ct Tryz.prog 79 [str t] [] (fun _ => True) (fun v A' => v = .tuple #[.int .i64 (readDec t).1, .bool (readDec t).2] ∧ A' = []) := by
  refine Ct.intro Tryz.func79 rfl Tryz.ntmps79 (lb rfl) fun w0 hpre => ?_
  refine jC <| jF <| jA (jG (v := iv 0) rfl) <| jA (jG (v := .bool false) rfl) <| jE <| jB <| jC <| jC <| jF <| jA (jD (v := str t) rfl) ?_
  refine jA (PO.lenS kN rfl) <| jA (PO.gtr rfl rfl) <| jE <| jB ?_
  by_cases h_1 : 10 < (t.length : Int)
  · refine jQ (cB (dT h_1)) <| jC <| jF <| jA (jG (v := iv 0) rfl) <| jA (jG (v := .bool false) rfl) <| jE <| jB <| jK <| jO <| Done.two (.inl rfl) rfl (jJ (v := iv 0) rfl) (jJ (v := .bool false) rfl) (List.nil_sublist _) ?_
    refine ⟨?_, rfl⟩
    rw [readDec_long (by omega)]
  refine jL (cB (dF h_1)) <| jM <| jB <| jC <| jF <| jA (jG (v := iv 0) rfl) <| jE <| jB <| jC <| jC ?_
  refine jF <| jA (jG (v := iv 0) rfl) <| jE <| jB <| jZ <| jo (fun k_ e_ L_ => ∃ j : Nat, ∃ n1 : Int, (j ≤ t.length) ∧ (0 ≤ n1) ∧ (n1 < ((10 ^ j : Nat) : Int)) ∧ (figs n1 (t.drop j) = figs 0 t) ∧ e_ 0 = str t ∧ e_ 4 = iv n1 ∧ e_ 5 = nv j ∧ L_ = [] ∧ k_ = t.length - j) _ ⟨0, 0, by omega, by omega, (by decide), rfl, rfl, rfl, rfl, rfl, rfl⟩ ?_
  rintro _ e_2 _ ⟨j, n1, hj, h0, hb, hR, he_3, he_4, he_5, rfl, rfl⟩
  refine jC <| jC <| jF <| jA (jD (v := nv j) he_5) <| jA (jD (v := str t) he_3) <| jA (PO.lenS kN rfl) <| jA (jb rfl rfl) <| jE <| jB ?_
  by_cases h_6 : ((j : Nat) : Int) < (t.length : Int)
  · have hlt : j < t.length := by omega
    have hpj : 10 ^ j ≤ 1000000000 := Nat.le_trans (Nat.pow_le_pow_right (by omega) (show j ≤ 9 by omega)) (by decide)
    refine jQ (cB (dT h_6)) <| jM <| jB <| jC <| jZ <| jC <| jC <| jF <| jA (jD (v := str t) he_3) <| jA (jD (v := nv j) he_5) ?_
    refine jA (PO.indexS (i := j) (c := t.getD j 0) kN rfl rfl (getD_some (by omega))) ?_
    have hu_7 := UInt8.toNat_lt (t.getD j 0)
    refine jA (jb rfl rfl) <| jA (jD (v := .bool (decide (((t.getD j 0).toNat : Int) < 48))) rfl) ?_
    by_cases h_8 : ((t.getD j 0).toNat : Int) < 48
    · refine ja (b := true) rfl rfl rfl (cB (dT h_8)) <| ja (b := true) rfl rfl rfl (cB (dT h_8)) <| ja (b := true) rfl rfl rfl (cB (dT h_8)) <| ja (b := true) rfl rfl rfl (cB (dT h_8)) <| jA (PO.pickT (v := .bool true) (cB (dT h_8)) rfl) <| jE <| jB <| jQ (cB rfl) <| jC <| jF ?_
      refine jA (jG (v := iv 0) rfl) <| jA (jG (v := .bool false) rfl) <| jE <| jB <| jK <| jO <| je <| jO <| jO <| je ?_
      refine jO <| Done.two (.inl rfl) rfl (jJ (v := iv 0) rfl) (jJ (v := .bool false) rfl) (List.nil_sublist _) ?_
      refine ⟨?_, rfl⟩
      rw [figs_step hlt, if_neg (by omega)] at hR
      rw [readDec_figs (by omega), ← hR]
    refine jd rfl rfl rfl (cB (dF h_8)) (jg (jj (jD (v := str t) he_3))) ?_
    rintro _ _ ⟨rfl, rfl⟩
    refine jd rfl rfl rfl (cB (dF h_8)) (jg (jj (jD (v := nv j) he_5))) ?_
    rintro _ _ ⟨rfl, rfl⟩
    refine jd rfl rfl rfl (cB (dF h_8)) (jg (jj (PO.indexS (i := j) (c := t.getD j 0) kN rfl rfl (getD_some (by omega))))) ?_
    rintro _ _ ⟨rfl, rfl⟩
    have hu_9 := UInt8.toNat_lt (t.getD j 0)
    refine jd rfl rfl rfl (cB (dF h_8)) (jg (jj (PO.gtr rfl rfl))) ?_
    rintro _ _ ⟨rfl, rfl⟩
    refine jA (PO.pickF (v := .bool (decide (57 < ((t.getD j 0).toNat : Int)))) (cB (dF h_8)) rfl) <| jE <| jB ?_
    by_cases h_10 : 57 < ((t.getD j 0).toNat : Int)
    · refine jQ (cB (dT h_10)) <| jC <| jF <| jA (jG (v := iv 0) rfl) <| jA (jG (v := .bool false) rfl) <| jE <| jB <| jK <| jO <| je ?_
      refine jO <| jO <| je <| jO <| Done.two (.inl rfl) rfl (jJ (v := iv 0) rfl) (jJ (v := .bool false) rfl) (List.nil_sublist _) ?_
      refine ⟨?_, rfl⟩
      rw [figs_step hlt, if_neg (by omega)] at hR
      rw [readDec_figs (by omega), ← hR]
    refine jL (cB (dF h_10)) <| jM <| jB <| jF <| jA (jD (v := iv n1) he_4) <| jA (PO.mul (c := 10 * n1) rfl rfl (wr (by omega))) <| jA (jD (v := str t) he_3) <| jA (jD (v := nv j) he_5) <| jA (PO.indexS (i := j) (c := t.getD j 0) kN rfl rfl (getD_some (by omega))) ?_
    have hu_11 := UInt8.toNat_lt (t.getD j 0)
    refine jA (PO.convI (c := ((t.getD j 0).toNat : Int)) Tryz.underlying5 Tryz.underlying3 rfl (wr (by omega))) <| jA (jT (c := (10 * n1) + ((t.getD j 0).toNat : Int)) rfl rfl (wr (by omega))) <| jA (PO.sub (c := ((10 * n1) + ((t.getD j 0).toNat : Int)) - 48) rfl rfl (wr (by omega))) <| jA (jG (v := iv (((10 * n1) + ((t.getD j 0).toNat : Int)) - 48)) rfl) <| jE <| jk <| jB <| jF <| jA (jD (v := nv j) he_5) <| jA (jT (c := ((j + 1 : Nat) : Int)) rfl rfl (wr (by omega))) ?_
    refine jA (jG (v := iv ((j + 1 : Nat) : Int)) rfl) <| jE ?_
    refine jl (t.length - (j + 1)) (by omega) ⟨j + 1, ((10 * n1) + ((t.getD j 0).toNat : Int)) - 48, by omega, by omega, (by rw [Nat.pow_succ]; omega), (by rw [figs_step hlt, if_pos (by omega)] at hR; exact hR), he_3, rfl, rfl, rfl, rfl⟩
  have hpj : 10 ^ j ≤ 10000000000 := Nat.le_trans (Nat.pow_le_pow_right (by omega) (show j ≤ 10 by omega)) (by decide)
  rw [List.drop_of_length_le (by omega), figs] at hR
  refine jL (cB (dF h_6)) <| jm <| jY <| jY <| jn <| jB <| jC <| jC <| jF <| jA (jD (v := iv n1) he_4) ?_
  refine jA (PO.gtr rfl rfl) <| jA (jD (v := .bool (decide (1000000000 < n1))) rfl) ?_
  by_cases h_12 : 1000000000 < n1
  · refine ja (b := true) rfl rfl rfl (cB (dT h_12)) <| ja (b := true) rfl rfl rfl (cB (dT h_12)) <| ja (b := true) rfl rfl rfl (cB (dT h_12)) <| ja (b := true) rfl rfl rfl (cB (dT h_12)) <| jA (PO.pickT (v := .bool true) (cB (dT h_12)) rfl) <| jE <| jB <| jQ (cB rfl) <| jC <| jF ?_
    refine jA (jG (v := iv 0) rfl) <| jA (jG (v := .bool false) rfl) <| jE <| jB <| jK <| jO <| Done.two (.inl rfl) rfl (jJ (v := iv 0) rfl) (jJ (v := .bool false) rfl) (List.nil_sublist _) ?_
    refine ⟨?_, rfl⟩
    rw [readDec_figs (by omega), ← hR]
    simp only
    rw [if_neg (fun h => by simp_all <;> omega)]
  refine jd rfl rfl rfl (cB (dF h_12)) (jg (jj (jD (v := iv n1) he_4))) ?_
  rintro _ _ ⟨rfl, rfl⟩
  refine jd rfl rfl rfl (cB (dF h_12)) (jR [] Tryz.call65 rfl (C_sDec n1 (by omega) (by omega)) rfl (fun _ _ => trivial)) ?_
  rintro _ _ ⟨_, ⟨rfl, rfl⟩, rfl⟩
  refine jd rfl rfl rfl (cB (dF h_12)) (jg (jj (jD (v := str t) he_3))) ?_
  rintro _ _ ⟨rfl, rfl⟩
  refine jd rfl rfl rfl (cB (dF h_12)) (jg (jj (kA rfl rfl))) ?_
  rintro _ _ ⟨rfl, rfl⟩
  refine jA (PO.pickF (v := .bool (!(decide ((dec n1) = t)))) (cB (dF h_12)) rfl) <| jE <| jB ?_
  by_cases h_13 : (dec n1) = t
  · refine jL (cB (cN (dT h_13))) <| jM <| jB <| jC <| jF <| jA (jD (v := iv n1) he_4) <| jA (jG (v := iv n1) rfl) <| jA (jG (v := .bool true) rfl) <| jE <| jB ?_
    refine jK <| Done.two (.inl rfl) rfl (jJ (v := iv n1) rfl) (jJ (v := .bool true) rfl) (List.nil_sublist _) ?_
    refine ⟨?_, rfl⟩
    rw [readDec_figs (by omega), ← hR]
    simp only
    rw [if_pos (by refine ⟨?_, ?_⟩ <;> first | omega | simp_all)]
  refine jQ (cB (cN (dF h_13))) <| jC <| jF <| jA (jG (v := iv 0) rfl) <| jA (jG (v := .bool false) rfl) <| jE <| jB <| jK <| jO <| Done.two (.inl rfl) rfl (jJ (v := iv 0) rfl) (jJ (v := .bool false) rfl) (List.nil_sublist _) ?_
  refine ⟨?_, rfl⟩
  rw [readDec_figs (by omega), ← hR]
  simp only
  rw [if_neg (fun h => by simp_all <;> omega)]

theorem C_sNumOf (t : Str) (ht : t.length ≤ 281474976710656) :
    Ct Tryz.prog 63 [str t] [] (fun _ => True) (fun v A' => v = .int .i64 (numOf t) ∧ A' = []) := by
  refine Ct.intro Tryz.func63 rfl Tryz.ntmps63 (lb rfl) fun w0 hpre => ?_
  refine jC <| jF <| jA (jG (v := iv 0) rfl) <| jE <| jB <| jC <| jF <| jA (jD (v := str t) rfl) ?_
  refine jI rfl (jR [] Tryz.call79 rfl (C_sReadDec t ht) rfl (fun _ _ => trivial)) ?_
  rintro _ _ ⟨_, ⟨rfl, rfl⟩, rfl⟩
  refine jA (jD (v := .tuple #[iv ((readDec t).1), .bool ((readDec t).2)]) rfl) <| jA (PO.extract (v := iv ((readDec t).1)) rfl rfl) <| jA (PO.extract (v := .bool ((readDec t).2)) rfl rfl) <| jA (jG (v := iv ((readDec t).1)) rfl) <| jA (jG (v := .bool ((readDec t).2)) rfl) <| jE <| jB <| jC <| jC <| jF ?_
  refine jA (jD (v := .bool ((readDec t).2)) rfl) <| jA (jq rfl) <| jA (jD (v := .bool (!((readDec t).2))) rfl) ?_
  rcases Bool.eq_false_or_eq_true ((readDec t).2) with h_1 | h_1
  · refine jd rfl rfl rfl (cB (cN h_1)) (jg (jj (jD (v := iv ((readDec t).1)) rfl))) ?_
    rintro _ _ ⟨rfl, rfl⟩
    refine jd rfl rfl rfl (cB (cN h_1)) (jg (jj (PO.gtr rfl rfl))) ?_
    rintro _ _ ⟨rfl, rfl⟩
    refine jA (PO.pickF (v := .bool (decide (999 < ((readDec t).1)))) (cB (cN h_1)) rfl) <| jE <| jB ?_
    by_cases h_2 : 999 < ((readDec t).1)
    · refine jQ (cB (dT h_2)) <| jC <| jF <| jA (jG (v := iv 0) rfl) <| jE <| jB <| jK <| jO <| jN (.inl rfl) rfl (jJ (v := iv 0) rfl) (List.nil_sublist _) ?_
      refine ⟨?_, rfl⟩
      unfold numOf
      first | rw [if_pos (by omega)] | (rw [if_neg (by omega)] <;> first | rfl | (congr 1; omega))
    refine jL (cB (dF h_2)) <| jM <| jB <| jC <| jF <| jA (jD (v := iv ((readDec t).1)) rfl) <| jA (jG (v := iv ((readDec t).1)) rfl) <| jE <| jB <| jK ?_
    refine jN (.inl rfl) rfl (jJ (v := iv ((readDec t).1)) rfl) (List.nil_sublist _) ?_
    refine ⟨?_, rfl⟩
    unfold numOf
    first | rw [if_pos (by omega)] | (rw [if_neg (by omega)] <;> first | rfl | (congr 1; omega))
  refine ja (b := true) rfl rfl rfl (cB (cN h_1)) <| ja (b := true) rfl rfl rfl (cB (cN h_1)) <| jA (PO.pickT (v := .bool true) (cB (cN h_1)) rfl) <| jE <| jB <| jQ (cB rfl) <| jC <| jF <| jA (jG (v := iv 0) rfl) <| jE ?_
  refine jB <| jK <| jO <| jN (.inl rfl) rfl (jJ (v := iv 0) rfl) (List.nil_sublist _) ?_
  refine ⟨?_, rfl⟩
  unfold numOf
  have hz := readDec_no h_1
  first | rw [if_pos (by omega)] | (rw [if_neg (by omega)] <;> first | rfl | (congr 1; omega))



theorem C_sLook (a0 a1 a2 : Option Addr) (c0_ c1 c2 : Nat) (m : MS) (key : Str) (h0 : m.s.length ≤ 5000000000) (h1 : m.r.length ≤ 5000000000) (h2 : m.w.length ≤ 5000000000) :
    Ct Tryz.prog 62 [.agg #[.slice a0 m.s.length c0_, .slice a1 m.r.length c1, .slice a2 m.w.length c2], str key] [Res.row (.slice a0 m.s.length c0_) 62 2 m.s.length (m.s.flatMap encC), Res.row (.slice a1 m.r.length c1) 9 1 m.r.length (m.r.map str), Res.row (.slice a2 m.w.length c2) 9 1 m.w.length (m.w.map str)] (fun _ => True) (fun v A' => ∃ x0 y0 x1 y1 x2 y2, v = .tuple #[.agg #[.slice x0 (((m.look key).1).s.length) y0, .slice x1 (((m.look key).1).r.length) y1, .slice x2 (((m.look key).1).w.length) y2], str (m.look key).2] ∧ A' = [Res.row (.slice x0 (((m.look key).1).s.length) y0) 62 2 ((((m.look key).1).s).length) ((((m.look key).1).s).flatMap encC), Res.row (.slice x1 (((m.look key).1).r.length) y1) 9 1 ((((m.look key).1).r).length) ((((m.look key).1).r).map str), Res.row (.slice x2 (((m.look key).1).w.length) y2) 9 1 ((((m.look key).1).w).length) ((((m.look key).1).w).map str)]) := by
  refine Ct.intro Tryz.func62 rfl Tryz.ntmps62 (lb rfl) fun w0 hpre => ?_
  refine jC <| jF ?_
  refine jI rfl (jp (cs := [.slice a0 m.s.length c0_, .slice a1 m.r.length c1, .slice a2 m.w.length c2]) rfl rfl) ?_
  rintro _ _ ⟨b_1, rfl, rfl⟩
  refine jI rfl (JO.alloc (z := zM) (cs := zC) Tryz.zeroValue52 rfl) ?_
  rintro _ _ ⟨b_2, rfl, rfl⟩
  refine jA (jG (v := str []) rfl) <| jE <| jB <| jC <| jF <| jA (jS fo52_1 rfl) <| jA (jS fo50_0 rfl) <| jP (jU 1 (v := .slice a1 m.r.length c1) rfl rfl kT rfl) <| jA (jD (v := str key) rfl) ?_
  refine jI rfl (jR [] Tryz.call77 rfl (C_sAddSpan a1 c1 m.r key (by omega)) rfl (fun w hw => hw.see (i := 3) rfl)) ?_
  rintro _ _ ⟨_, ⟨a_3, c_4, rfl, rfl⟩, rfl⟩
  refine jA (jS fo52_1 rfl) <| jA (jS fo50_0 rfl) ?_
  refine jI rfl (JO.store 2 (vs := [.slice a_3 ((addSpan m.r key).length) c_4]) (cs' := [.slice a0 m.s.length c0_, .slice a_3 ((addSpan m.r key).length) c_4, .slice a2 m.w.length c2]) rfl rfl rfl rfl Tryz.sizeOf30 rfl rfl (lb rfl) rfl) ?_
  rintro _ _ rfl
  refine jE <| jB <| jC <| jv [Res.row (.slice a_3 ((addSpan m.r key).length) c_4) 9 1 ((addSpan m.r key).length) ((addSpan m.r key).map str), bk b_1 52 [.slice a0 m.s.length c0_, .slice a_3 ((addSpan m.r key).length) c_4, .slice a2 m.w.length c2], Res.row (.slice a0 m.s.length c0_) 62 2 m.s.length (m.s.flatMap encC), Res.row (.slice a1 m.r.length c1) 9 1 m.r.length (m.r.map str), Res.row (.slice a2 m.w.length c2) 9 1 m.w.length (m.w.map str)] 6 mixed (by simp) <| jw 0 rfl (jr 1 (vs := [.slice a0 m.s.length c0_, .slice a_3 ((addSpan m.r key).length) c_4, .slice a2 m.w.length c2]) rfl rfl Tryz.isAgg52 kU rfl rfl) <| jW 1 rfl (jS fo52_0 rfl) <| jw 2 rfl (jU 1 (v := .slice a0 m.s.length c0_) rfl rfl kX rfl) <| jW 3 rfl (jD (v := str key) rfl) <| jx (i := 4) ?_
  refine jz rfl rfl (jR [] Tryz.call78 rfl (C_sGetKey a0 c0_ m.s key (by omega)) rfl (fun w hw => hw.see (i := 3) rfl)) ?_
  rintro _ _ ⟨_, ⟨rfl, rfl⟩, rfl⟩
  refine ⟨by simp, ?_⟩
  refine jx (i := 5) ?_
  refine jz rfl rfl (JO.store 1 (vs := [.slice a0 m.s.length c0_, .slice a_3 ((addSpan m.r key).length) c_4, .slice a2 m.w.length c2]) (cs' := [.slice a0 m.s.length c0_, .slice a_3 ((addSpan m.r key).length) c_4, .slice a2 m.w.length c2]) rfl rfl rfl rfl kU rfl rfl (lb rfl) rfl) ?_
  rintro _ _ rfl
  refine ⟨by simp, ?_⟩
  refine jW 6 rfl (jG (v := str (getKey m.s key)) rfl) <| kB (by kernel_rfl) <| jB <| jK <| JQ.perm (pick_perm [3, 0, 3] (A := [Res.row (.slice a0 m.s.length c0_) 62 2 m.s.length (m.s.flatMap encC), Res.row (.slice a_3 ((addSpan m.r key).length) c_4) 9 1 ((addSpan m.r key).length) ((addSpan m.r key).map str), Res.row (.slice a2 m.w.length c2) 9 1 m.w.length (m.w.map str)]) (F := [bk b_2 52 [.slice a0 m.s.length c0_, .slice a_3 ((addSpan m.r key).length) c_4, .slice a2 m.w.length c2], bk b_1 52 [.slice a0 m.s.length c0_, .slice a_3 ((addSpan m.r key).length) c_4, .slice a2 m.w.length c2], Res.row (.slice a1 m.r.length c1) 9 1 m.r.length (m.r.map str)]) rfl).symm <| Done.two (.inl rfl) rfl (RV.cell1 (jr 3 (vs := [.slice a0 m.s.length c0_, .slice a_3 ((addSpan m.r key).length) c_4, .slice a2 m.w.length c2]) rfl rfl Tryz.isAgg52 kU rfl rfl) ⟨_, rfl⟩) (jJ (v := str (getKey m.s key)) rfl) (tS 3 _) ?_
  exact ⟨_, _, _, _, _, _, rfl, rfl⟩

theorem C_sLay (a0 a1 a2 : Option Addr) (c0_ c1 c2 : Nat) (m : MS) (key val : Str) (h0 : m.s.length ≤ 5000000000) (h1 : m.r.length ≤ 5000000000) (h2 : m.w.length ≤ 5000000000) (hk : key.length ≤ 1000000000000) :
    Ct Tryz.prog 64 [.agg #[.slice a0 m.s.length c0_, .slice a1 m.r.length c1, .slice a2 m.w.length c2], str key, str val] [Res.row (.slice a0 m.s.length c0_) 62 2 m.s.length (m.s.flatMap encC), Res.row (.slice a1 m.r.length c1) 9 1 m.r.length (m.r.map str), Res.row (.slice a2 m.w.length c2) 9 1 m.w.length (m.w.map str)] (fun _ => True) (fun v A' => ∃ x0 y0 x1 y1 x2 y2, v = .agg #[.slice x0 ((m.lay key val).s.length) y0, .slice x1 ((m.lay key val).r.length) y1, .slice x2 ((m.lay key val).w.length) y2] ∧ A' = [Res.row (.slice x0 ((m.lay key val).s.length) y0) 62 2 (((m.lay key val).s).length) (((m.lay key val).s).flatMap encC), Res.row (.slice x1 ((m.lay key val).r.length) y1) 9 1 (((m.lay key val).r).length) (((m.lay key val).r).map str), Res.row (.slice x2 ((m.lay key val).w.length) y2) 9 1 (((m.lay key val).w).length) (((m.lay key val).w).map str)]) := by
  refine Ct.intro Tryz.func64 rfl Tryz.ntmps64 (lb rfl) fun w0 hpre => ?_
  refine jC <| jF ?_
  refine jI rfl (jp (cs := [.slice a0 m.s.length c0_, .slice a1 m.r.length c1, .slice a2 m.w.length c2]) rfl rfl) ?_
  rintro _ _ ⟨b_1, rfl, rfl⟩
  refine jI rfl (JO.alloc (z := zM) (cs := zC) Tryz.zeroValue52 rfl) ?_
  rintro _ _ ⟨b_2, rfl, rfl⟩
  refine jE <| jB <| jC <| jF <| jA (jS fo52_1 rfl) <| jA (jS fo50_1 rfl) <| jP (jU 1 (v := .slice a2 m.w.length c2) rfl rfl kT rfl) <| jA (jD (v := str key) rfl) ?_
  refine jI rfl (jR [] Tryz.call77 rfl (C_sAddSpan a2 c2 m.w key (by omega)) rfl (fun w hw => hw.see (i := 4) rfl)) ?_
  rintro _ _ ⟨_, ⟨a_3, c_4, rfl, rfl⟩, rfl⟩
  refine jA (jS fo52_1 rfl) <| jA (jS fo50_1 rfl) ?_
  refine jI rfl (JO.store 2 (vs := [.slice a_3 ((addSpan m.w key).length) c_4]) (cs' := [.slice a0 m.s.length c0_, .slice a1 m.r.length c1, .slice a_3 ((addSpan m.w key).length) c_4]) rfl rfl rfl rfl Tryz.sizeOf30 rfl rfl (lb rfl) rfl) ?_
  rintro _ _ rfl
  refine jE <| jB <| jC <| jF <| jA (jS fo52_0 rfl) <| jP (jU 2 (v := .slice a0 m.s.length c0_) rfl rfl kX rfl) <| jA (jD (v := str key) rfl) <| jA (jD (v := str val) rfl) ?_
  refine jI rfl (jR [] Tryz.call80 rfl (C_sPutKey a0 c0_ m.s key val (by omega) (by omega)) rfl (fun w hw => hw.see (i := 3) rfl)) ?_
  rintro _ _ ⟨_, ⟨a_5, c_6, rfl, rfl⟩, rfl⟩
  refine jA (jS fo52_0 rfl) ?_
  refine jI rfl (JO.store 3 (vs := [.slice a_5 ((putKey m.s key val).length) c_6]) (cs' := [.slice a_5 ((putKey m.s key val).length) c_6, .slice a1 m.r.length c1, .slice a_3 ((addSpan m.w key).length) c_4]) rfl rfl rfl rfl Tryz.sizeOf22 rfl rfl (lb rfl) rfl) ?_
  rintro _ _ rfl
  refine jE <| jB <| jC <| jF <| jP (jr 3 (vs := [.slice a_5 ((putKey m.s key val).length) c_6, .slice a1 m.r.length c1, .slice a_3 ((addSpan m.w key).length) c_4]) rfl rfl Tryz.isAgg52 kU rfl rfl) ?_
  refine jI rfl (JO.store 2 (vs := [.slice a_5 ((putKey m.s key val).length) c_6, .slice a1 m.r.length c1, .slice a_3 ((addSpan m.w key).length) c_4]) (cs' := [.slice a_5 ((putKey m.s key val).length) c_6, .slice a1 m.r.length c1, .slice a_3 ((addSpan m.w key).length) c_4]) rfl rfl rfl rfl kU rfl rfl (lb rfl) rfl) ?_
  rintro _ _ rfl
  refine jE <| jB <| jK <| JQ.perm (pick_perm [0, 4, 0] (A := [Res.row (.slice a_5 ((putKey m.s key val).length) c_6) 62 2 ((putKey m.s key val).length) ((putKey m.s key val).flatMap encC), Res.row (.slice a1 m.r.length c1) 9 1 m.r.length (m.r.map str), Res.row (.slice a_3 ((addSpan m.w key).length) c_4) 9 1 ((addSpan m.w key).length) ((addSpan m.w key).map str)]) (F := [bk b_2 52 [.slice a_5 ((putKey m.s key val).length) c_6, .slice a1 m.r.length c1, .slice a_3 ((addSpan m.w key).length) c_4], bk b_1 52 [.slice a_5 ((putKey m.s key val).length) c_6, .slice a1 m.r.length c1, .slice a_3 ((addSpan m.w key).length) c_4], Res.row (.slice a0 m.s.length c0_) 62 2 m.s.length (m.s.flatMap encC), Res.row (.slice a2 m.w.length c2) 9 1 m.w.length (m.w.map str)]) rfl).symm <| jN (.inl rfl) rfl (RV.cell1 (jr 3 (vs := [.slice a_5 ((putKey m.s key val).length) c_6, .slice a1 m.r.length c1, .slice a_3 ((addSpan m.w key).length) c_4]) rfl rfl Tryz.isAgg52 kU rfl rfl) ⟨_, rfl⟩) (tS 3 _) ?_
  exact ⟨_, _, _, _, _, _, rfl, rfl⟩

theorem C_sBump (a0 a1 a2 : Option Addr) (c0_ c1 c2 : Nat) (m : MS) (key : Str) (h0 : m.s.length ≤ 2000000000) (h1 : m.r.length ≤ 2000000000) (h2 : m.w.length ≤ 2000000000) (hv : (getKey m.s key).length ≤ 281474976710656) (hk : key.length ≤ 1000000000000) :
    Ct Tryz.prog 49 [.agg #[.slice a0 m.s.length c0_, .slice a1 m.r.length c1, .slice a2 m.w.length c2], str key] [Res.row (.slice a0 m.s.length c0_) 62 2 m.s.length (m.s.flatMap encC), Res.row (.slice a1 m.r.length c1) 9 1 m.r.length (m.r.map str), Res.row (.slice a2 m.w.length c2) 9 1 m.w.length (m.w.map str)] (fun _ => True) (fun v A' => ∃ x0 y0 x1 y1 x2 y2, v = .tuple #[.agg #[.slice x0 (((m.bump key).1).s.length) y0, .slice x1 (((m.bump key).1).r.length) y1, .slice x2 (((m.bump key).1).w.length) y2], .int .i64 (m.bump key).2] ∧ A' = [Res.row (.slice x0 (((m.bump key).1).s.length) y0) 62 2 ((((m.bump key).1).s).length) ((((m.bump key).1).s).flatMap encC), Res.row (.slice x1 (((m.bump key).1).r.length) y1) 9 1 ((((m.bump key).1).r).length) ((((m.bump key).1).r).map str), Res.row (.slice x2 (((m.bump key).1).w.length) y2) 9 1 ((((m.bump key).1).w).length) ((((m.bump key).1).w).map str)]) := by
  refine Ct.intro Tryz.func49 rfl Tryz.ntmps49 (lb rfl) fun w0 hpre => ?_
  refine jC <| jF ?_
  refine jI rfl (jp (cs := [.slice a0 m.s.length c0_, .slice a1 m.r.length c1, .slice a2 m.w.length c2]) rfl rfl) ?_
  rintro _ _ ⟨b_1, rfl, rfl⟩
  refine jI rfl (JO.alloc (z := zM) (cs := zC) Tryz.zeroValue52 rfl) ?_
  rintro _ _ ⟨b_2, rfl, rfl⟩
  refine jA (jG (v := iv 0) rfl) <| jE <| jB <| jC <| jF <| jP (jr 1 (vs := [.slice a0 m.s.length c0_, .slice a1 m.r.length c1, .slice a2 m.w.length c2]) rfl rfl Tryz.isAgg52 kU rfl rfl) <| jA (jD (v := str key) rfl) ?_
  refine jI rfl (jR [2, 2, 2] Tryz.call62 rfl (C_sLook a0 a1 a2 c0_ c1 c2 m key (by omega) (by omega) (by omega)) rfl (fun _ _ => trivial)) ?_
  rintro _ _ ⟨_, ⟨a_3, c_4, a_5, c_6, a_7, c_8, rfl, rfl⟩, rfl⟩
  have hlk8 := look_len m key
  refine jA (jD (v := .tuple #[.agg #[.slice a_3 (((MS.look m key).1).s.length) c_4, .slice a_5 (((MS.look m key).1).r.length) c_6, .slice a_7 (((MS.look m key).1).w.length) c_8], str ((MS.look m key).2)]) rfl) <| jA (PO.extract (v := .agg #[.slice a_3 (((MS.look m key).1).s.length) c_4, .slice a_5 (((MS.look m key).1).r.length) c_6, .slice a_7 (((MS.look m key).1).w.length) c_8]) rfl rfl) <| jA (PO.extract (v := str ((MS.look m key).2)) rfl rfl) ?_
  refine jI rfl (JO.store 4 (vs := [.slice a_3 (((MS.look m key).1).s.length) c_4, .slice a_5 (((MS.look m key).1).r.length) c_6, .slice a_7 (((MS.look m key).1).w.length) c_8]) (cs' := [.slice a_3 (((MS.look m key).1).s.length) c_4, .slice a_5 (((MS.look m key).1).r.length) c_6, .slice a_7 (((MS.look m key).1).w.length) c_8]) rfl rfl rfl rfl kU rfl rfl (lb rfl) rfl) ?_
  rintro _ _ rfl
  refine jA (jG (v := str ((MS.look m key).2)) rfl) <| jE <| jB <| jC <| jF <| jA (jD (v := str ((MS.look m key).2)) rfl) ?_
  refine jI rfl (jR [] Tryz.call63 rfl (C_sNumOf ((MS.look m key).2) hv) rfl (fun _ _ => trivial)) ?_
  rintro _ _ ⟨_, ⟨rfl, rfl⟩, rfl⟩
  have hno8 := numOf_lo ((MS.look m key).2)
  refine jA (jT (c := (numOf ((MS.look m key).2)) + 1) rfl rfl (wr (by omega))) <| jA (jG (v := iv ((numOf ((MS.look m key).2)) + 1)) rfl) <| jE <| jB <| jC <| jC <| jF <| jA (jD (v := iv ((numOf ((MS.look m key).2)) + 1)) rfl) <| jA (PO.gtr rfl rfl) <| jE ?_
  refine jB ?_
  by_cases h_9 : 999 < ((numOf ((MS.look m key).2)) + 1)
  · refine jQ (cB (dT h_9)) <| jC <| jF <| jP (jr 4 (vs := [.slice a_3 (((MS.look m key).1).s.length) c_4, .slice a_5 (((MS.look m key).1).r.length) c_6, .slice a_7 (((MS.look m key).1).w.length) c_8]) rfl rfl Tryz.isAgg52 kU rfl rfl) ?_
    refine jI rfl (JO.store 3 (vs := [.slice a_3 (((MS.look m key).1).s.length) c_4, .slice a_5 (((MS.look m key).1).r.length) c_6, .slice a_7 (((MS.look m key).1).w.length) c_8]) (cs' := [.slice a_3 (((MS.look m key).1).s.length) c_4, .slice a_5 (((MS.look m key).1).r.length) c_6, .slice a_7 (((MS.look m key).1).w.length) c_8]) rfl rfl rfl rfl kU rfl rfl (lb rfl) rfl) ?_
    rintro _ _ rfl
    refine jA (jG (v := iv 0) rfl) <| jE <| jB <| jK <| jO <| Done.two (.inl rfl) rfl (RV.cell1 (jr 3 (vs := [.slice a_3 (((MS.look m key).1).s.length) c_4, .slice a_5 (((MS.look m key).1).r.length) c_6, .slice a_7 (((MS.look m key).1).w.length) c_8]) rfl rfl Tryz.isAgg52 kU rfl rfl) ⟨_, rfl⟩) (jJ (v := iv 0) rfl) (tS 3 _) ?_
    have hq : (m.num key).2 = numOf (m.look key).2 := rfl
    have hb : m.bump key = ((m.num key).1, 0) := by unfold MS.bump; rw [if_pos (by omega)]
    rw [hb]
    exact ⟨_, _, _, _, _, _, rfl, rfl⟩
  refine jL (cB (dF h_9)) <| jM <| jB <| jC <| jv [bk b_1 52 [.slice a_3 (((MS.look m key).1).s.length) c_4, .slice a_5 (((MS.look m key).1).r.length) c_6, .slice a_7 (((MS.look m key).1).w.length) c_8]] 6 mixed (by simp) <| jw 0 rfl (jr 0 (vs := [.slice a_3 (((MS.look m key).1).s.length) c_4, .slice a_5 (((MS.look m key).1).r.length) c_6, .slice a_7 (((MS.look m key).1).w.length) c_8]) rfl rfl Tryz.isAgg52 kU rfl rfl) <| jW 1 rfl (jD (v := str key) rfl) <| jW 2 rfl (jD (v := iv ((numOf ((MS.look m key).2)) + 1)) rfl) <| jW 5 rfl (jD (v := iv ((numOf ((MS.look m key).2)) + 1)) rfl) <| jx (i := 3) ?_
  refine jz rfl rfl (jR [] Tryz.call65 rfl (C_sDec ((numOf ((MS.look m key).2)) + 1) (by omega) (by omega)) rfl (fun _ _ => trivial)) ?_
  rintro _ _ ⟨_, ⟨rfl, rfl⟩, rfl⟩
  refine ⟨by simp, ?_⟩
  refine jx (i := 4) ?_
  refine jz rfl rfl (jR [0, 0, 0] Tryz.call64 rfl (C_sLay a_3 a_5 a_7 c_4 c_6 c_8 ((MS.look m key).1) key (dec ((numOf ((MS.look m key).2)) + 1)) (by omega) (by omega) (by omega) (by omega)) rfl (fun _ _ => trivial)) ?_
  rintro _ _ ⟨_, ⟨a_16, c_17, a_18, c_19, a_20, c_21, rfl, rfl⟩, rfl⟩
  have hly21 := lay_len ((MS.look m key).1) key (dec ((numOf ((MS.look m key).2)) + 1))
  refine ⟨by simp, ?_⟩
  refine jx (i := 6) ?_
  refine JX.lt rfl (JO.store 3 (vs := [.slice a_16 ((MS.lay ((MS.look m key).1) key (dec ((numOf ((MS.look m key).2)) + 1))).s.length) c_17, .slice a_18 ((MS.lay ((MS.look m key).1) key (dec ((numOf ((MS.look m key).2)) + 1))).r.length) c_19, .slice a_20 ((MS.lay ((MS.look m key).1) key (dec ((numOf ((MS.look m key).2)) + 1))).w.length) c_21]) (cs' := [.slice a_16 ((MS.lay ((MS.look m key).1) key (dec ((numOf ((MS.look m key).2)) + 1))).s.length) c_17, .slice a_18 ((MS.lay ((MS.look m key).1) key (dec ((numOf ((MS.look m key).2)) + 1))).r.length) c_19, .slice a_20 ((MS.lay ((MS.look m key).1) key (dec ((numOf ((MS.look m key).2)) + 1))).w.length) c_21]) rfl rfl rfl rfl kU rfl rfl (lb rfl) rfl) ?_
  rintro _ _ rfl
  refine jW 7 rfl (jG (v := iv ((numOf ((MS.look m key).2)) + 1)) rfl) <| kB (by kernel_rfl) <| jB <| jK <| Done.two (.inl rfl) rfl (RV.cell1 (jr 3 (vs := [.slice a_16 ((MS.lay ((MS.look m key).1) key (dec ((numOf ((MS.look m key).2)) + 1))).s.length) c_17, .slice a_18 ((MS.lay ((MS.look m key).1) key (dec ((numOf ((MS.look m key).2)) + 1))).r.length) c_19, .slice a_20 ((MS.lay ((MS.look m key).1) key (dec ((numOf ((MS.look m key).2)) + 1))).w.length) c_21]) rfl rfl Tryz.isAgg52 kU rfl rfl) ⟨_, rfl⟩) (jJ (v := iv ((numOf ((MS.look m key).2)) + 1)) rfl) (tS 3 _) ?_
  have hq : (m.num key).2 = numOf (m.look key).2 := rfl
  have hb : m.bump key = ((m.look key).1.lay key (dec (numOf (m.look key).2 + 1)), numOf (m.look key).2 + 1) := by unfold MS.bump; rw [if_neg (by omega)]; unfold MS.setNum; rw [if_pos (by omega)]; rfl
  rw [hb]
  exact ⟨_, _, _, _, _, _, rfl, rfl⟩

end Go.Proofs.YtkmpmjficoohkaaGreatDoor

set_option linter.unusedSimpArgs false
set_option linter.unusedVariables false
set_option linter.unnecessarySimpa false
namespace Go.Proofs.YtkmpmjficoohkaaGreatDoor
open Go Go.RowKit

/-- Where the three lists of a machine lie. -/
structure MA where
  a0 : Option Addr
  c0 : Nat
  a1 : Option Addr
  c1 : Nat
  a2 : Option Addr
  c2 : Nat
@[reducible] def mc (x : MA) (m : MS) : List Value := [.slice x.a0 m.s.length x.c0, .slice x.a1 m.r.length x.c1, .slice x.a2 m.w.length x.c2]
@[reducible] def mv (x : MA) (m : MS) : Value := .agg #[.slice x.a0 m.s.length x.c0, .slice x.a1 m.r.length x.c1, .slice x.a2 m.w.length x.c2]
@[reducible] def mr (x : MA) (m : MS) : List Res := [rC x.a0 x.c0 m.s, rS x.a1 x.c1 m.r, rS x.a2 x.c2 m.w]
@[reducible] def mb (p : Nat) (x : MA) (m : MS) : Res := bk p 52 [.slice x.a0 m.s.length x.c0, .slice x.a1 m.r.length x.c1, .slice x.a2 m.w.length x.c2]
@[reducible] def seesM (w : World) (x : MA) (m : MS) : Prop := Sees w (.slice x.a0 m.s.length x.c0) 2 m.s.length (m.s.flatMap encC) ∧ Sees w (.slice x.a1 m.r.length x.c1) 1 m.r.length (m.r.map str) ∧ Sees w (.slice x.a2 m.w.length x.c2) 1 m.w.length (m.w.map str)

theorem Ct.introL {P : Program} {n : Nat} {f : FuncId} {fn : Func} {c : Code} {args : List Value} {A : List Res} {Pre : World → Prop} {Post : Value → List Res → Prop}
    (hf : P.funcs[f]? = some fn) (hb : fn.body = some c) (hn : fn.ntmps = n) (hle : args.length ≤ n)
    (h : ∀ w0, Pre w0 → (∀ i ∈ idsOf A, GB ≤ i) → JC P (bodyPost P fn (Done w0 (idsOf A) Post)) n w0 (idsOf A) A c (argEnv args)) : Ct P f args A Pre Post := fun w hA hpre => by
  refine calls_of_wp hf hb ?_
  rw [hn, act_args n args hle]
  exact h w hpre hA.low w (St.start hA)

section
variable {n : Nat} {w0 : World} {D : List Nat} {L : List Res} {e : Env} {d : Option Tmp} {ty : TypeId} {pos : String} {aft : Array Edge} {gd : Option (Nat × Bool)}
/-- A machine read from its block, and laid there. -/
theorem LO.ldM (i : Nat) {x : Operand} {b : Nat} (X : MA) (M : MS) (hL : L[i]? = some (mb b X M)) (hx : rd n e x = .pointer (some ⟨b, 0, none⟩)) : LO Tryz.prog n w0 D L e ⟨d, .load 52 x, ty, pos, aft, gd⟩ (mv X M) := jr i (vs := mc X M) hL hx Tryz.isAgg52 Tryz.sizeOf52 rfl rfl
theorem JO.stM (i : Nat) {x y : Operand} {b : Nat} {cs : List Value} (X : MA) (M : MS) (hL : L[i]? = some (bk b 52 cs)) (hx : rd n e x = .pointer (some ⟨b, 0, none⟩)) (hy : rd n e y = mv X M) (hc : cs.length = 3) :
    JO Tryz.prog n w0 D L e ⟨d, .store 52 x y, ty, pos, aft, gd⟩ (fun _ L' => L' = L.set i (mb b X M)) := by
  match cs, hc with
  | [c1, c2, c3], _ => exact JO.store i (vs := mc X M) (cs' := mc X M) hL hx hy rfl Tryz.sizeOf52 rfl rfl (Nat.le_of_ble_eq_true rfl) rfl
end

theorem N_look (p : Nat) (x : MA) (m : MS) {S T : Nat} (hk : m.ok S T) (hS : S ≤ 1000000000) (hT : T ≤ 1000000000) (key : Str) :
    Ct Tryz.prog 69 [.pointer (some ⟨p, 0, none⟩), str key] (mb p x m :: mr x m) (fun _ => True) (fun v A' => ∃ x' m' u, m.look key = (m', u) ∧ m'.ok S (T + 1) ∧ u.length ≤ 1048576 ∧ v = str u ∧ A' = mb p x' m' :: mr x' m') :=
  (C_look p x.a0 x.a1 x.a2 x.c0 x.c1 x.c2 m key (by have := hk.1; omega) (by have := hk.2.1; omega) (by have := hk.2.2.1; omega)).weak (fun _ h => h) fun v A' ⟨x0, y0, x1, y1, x2, y2, hv, hA⟩ => ⟨⟨x0, y0, x1, y1, x2, y2⟩, (m.look key).1, (m.look key).2, rfl, hk.look key, hk.getKey key, hv, hA⟩

theorem N_lay (p : Nat) (x : MA) (m : MS) {S T : Nat} (hk : m.ok S T) (hS : S ≤ 1000000000) (hT : T ≤ 1000000000) (key : Str) (val : Str) (hkey : key.length ≤ 1000000000000) :
    Ct Tryz.prog 72 [.pointer (some ⟨p, 0, none⟩), str key, str val] (mb p x m :: mr x m) (fun _ => True) (fun v A' => ∃ x' m', m.lay key val = m' ∧ m'.ok (S + 1) (T + 1) ∧ v = .tuple #[] ∧ A' = mb p x' m' :: mr x' m') :=
  (C_lay p x.a0 x.a1 x.a2 x.c0 x.c1 x.c2 m key val (by have := hk.1; omega) (by have := hk.2.1; omega) (by have := hk.2.2.1; omega) hkey).weak (fun _ h => h) fun v A' ⟨x0, y0, x1, y1, x2, y2, hv, hA⟩ => ⟨⟨x0, y0, x1, y1, x2, y2⟩, m.lay key val, rfl, hk.lay key val, hv, hA⟩

theorem N_layNil (p : Nat) (x : MA) (m : MS) {S T : Nat} (hk : m.ok S T) (hS : S ≤ 1000000000) (hT : T ≤ 1000000000) (key : Str) (hkey : key.length ≤ 1000000000000) :
    Ct Tryz.prog 72 [.pointer (some ⟨p, 0, none⟩), str key, str []] (mb p x m :: mr x m) (fun _ => True) (fun v A' => ∃ x' m', m.lay key [] = m' ∧ m'.ok S (T + 1) ∧ v = .tuple #[] ∧ A' = mb p x' m' :: mr x' m') :=
  (C_lay p x.a0 x.a1 x.a2 x.c0 x.c1 x.c2 m key [] (by have := hk.1; omega) (by have := hk.2.1; omega) (by have := hk.2.2.1; omega) hkey).weak (fun _ h => h) fun v A' ⟨x0, y0, x1, y1, x2, y2, hv, hA⟩ => ⟨⟨x0, y0, x1, y1, x2, y2⟩, m.lay key [], rfl, hk.layNil key, hv, hA⟩

theorem N_num (p : Nat) (x : MA) (m : MS) {S T : Nat} (hk : m.ok S T) (hS : S ≤ 1000000000) (hT : T ≤ 1000000000) (key : Str) :
    Ct Tryz.prog 52 [.pointer (some ⟨p, 0, none⟩), str key] (mb p x m :: mr x m) (fun _ => True) (fun v A' => ∃ x' m' n, m.num key = (m', n) ∧ m'.ok S (T + 1) ∧ (0 ≤ n ∧ n ≤ 999) ∧ v = .int .i64 n ∧ A' = mb p x' m' :: mr x' m') :=
  (C_num p x.a0 x.a1 x.a2 x.c0 x.c1 x.c2 m key (by have := hk.1; omega) (by have := hk.2.1; omega) (by have := hk.2.2.1; omega) (Nat.le_trans (hk.getKey key) (by decide))).weak (fun _ h => h) fun v A' ⟨x0, y0, x1, y1, x2, y2, hv, hA⟩ => ⟨⟨x0, y0, x1, y1, x2, y2⟩, (m.num key).1, (m.num key).2, rfl, hk.look key, numOf_lo _, hv, hA⟩

theorem N_setNum (p : Nat) (x : MA) (m : MS) {S T : Nat} (hk : m.ok S T) (hS : S ≤ 1000000000) (hT : T ≤ 1000000000) (key : Str) (n : Int) (hkey : key.length ≤ 1000000000000) (hn : -9223372036854775808 ≤ n ∧ n ≤ 9223372036854775807) :
    Ct Tryz.prog 54 [.pointer (some ⟨p, 0, none⟩), str key, .int .i64 n] (mb p x m :: mr x m) (fun _ => True) (fun v A' => ∃ x' m', m.setNum key n = m' ∧ m'.ok (S + 1) (T + 1) ∧ v = .tuple #[] ∧ A' = mb p x' m' :: mr x' m') :=
  (C_setNum p x.a0 x.a1 x.a2 x.c0 x.c1 x.c2 m key n (by have := hk.1; omega) (by have := hk.2.1; omega) (by have := hk.2.2.1; omega) hkey hn.1 hn.2).weak (fun _ h => h) fun v A' ⟨x0, y0, x1, y1, x2, y2, hv, hA⟩ => ⟨⟨x0, y0, x1, y1, x2, y2⟩, m.setNum key n, rfl, hk.lay key _, hv, hA⟩

theorem N_bump (p : Nat) (x : MA) (m : MS) {S T : Nat} (hk : m.ok S T) (hS : S ≤ 1000000000) (hT : T ≤ 1000000000) (key : Str) (hkey : key.length ≤ 1000000000000) :
    Ct Tryz.prog 53 [.pointer (some ⟨p, 0, none⟩), str key] (mb p x m :: mr x m) (fun _ => True) (fun v A' => ∃ x' m' n, m.bump key = (m', n) ∧ m'.ok (S + 1) (T + 1) ∧ (0 ≤ n ∧ n ≤ 999) ∧ v = .int .i64 n ∧ A' = mb p x' m' :: mr x' m') :=
  (C_bump p x.a0 x.a1 x.a2 x.c0 x.c1 x.c2 m key (by have := hk.1; omega) (by have := hk.2.1; omega) (by have := hk.2.2.1; omega) (Nat.le_trans (hk.getKey key) (by decide)) hkey).weak (fun _ h => h) fun v A' ⟨x0, y0, x1, y1, x2, y2, hv, hA⟩ => ⟨⟨x0, y0, x1, y1, x2, y2⟩, (m.bump key).1, (m.bump key).2, rfl, hk.bump key, (bump_lo m key), hv, hA⟩

theorem N_sLook (x : MA) (m : MS) {S T : Nat} (hk : m.ok S T) (hS : S ≤ 1000000000) (hT : T ≤ 1000000000) (key : Str) :
    Ct Tryz.prog 62 [mv x m, str key] (mr x m) (fun _ => True) (fun v A' => ∃ x' m' u, m.look key = (m', u) ∧ m'.ok S (T + 1) ∧ u.length ≤ 1048576 ∧ v = .tuple #[mv x' m', str u] ∧ A' = mr x' m') :=
  (C_sLook x.a0 x.a1 x.a2 x.c0 x.c1 x.c2 m key (by have := hk.1; omega) (by have := hk.2.1; omega) (by have := hk.2.2.1; omega)).weak (fun _ h => h) fun v A' ⟨x0, y0, x1, y1, x2, y2, hv, hA⟩ => ⟨⟨x0, y0, x1, y1, x2, y2⟩, (m.look key).1, (m.look key).2, rfl, hk.look key, hk.getKey key, hv, hA⟩

theorem N_sLay (x : MA) (m : MS) {S T : Nat} (hk : m.ok S T) (hS : S ≤ 1000000000) (hT : T ≤ 1000000000) (key : Str) (val : Str) (hkey : key.length ≤ 1000000000000) :
    Ct Tryz.prog 64 [mv x m, str key, str val] (mr x m) (fun _ => True) (fun v A' => ∃ x' m', m.lay key val = m' ∧ m'.ok (S + 1) (T + 1) ∧ v = mv x' m' ∧ A' = mr x' m') :=
  (C_sLay x.a0 x.a1 x.a2 x.c0 x.c1 x.c2 m key val (by have := hk.1; omega) (by have := hk.2.1; omega) (by have := hk.2.2.1; omega) hkey).weak (fun _ h => h) fun v A' ⟨x0, y0, x1, y1, x2, y2, hv, hA⟩ => ⟨⟨x0, y0, x1, y1, x2, y2⟩, m.lay key val, rfl, hk.lay key val, hv, hA⟩

theorem N_sLayNil (x : MA) (m : MS) {S T : Nat} (hk : m.ok S T) (hS : S ≤ 1000000000) (hT : T ≤ 1000000000) (key : Str) (hkey : key.length ≤ 1000000000000) :
    Ct Tryz.prog 64 [mv x m, str key, str []] (mr x m) (fun _ => True) (fun v A' => ∃ x' m', m.lay key [] = m' ∧ m'.ok S (T + 1) ∧ v = mv x' m' ∧ A' = mr x' m') :=
  (C_sLay x.a0 x.a1 x.a2 x.c0 x.c1 x.c2 m key [] (by have := hk.1; omega) (by have := hk.2.1; omega) (by have := hk.2.2.1; omega) hkey).weak (fun _ h => h) fun v A' ⟨x0, y0, x1, y1, x2, y2, hv, hA⟩ => ⟨⟨x0, y0, x1, y1, x2, y2⟩, m.lay key [], rfl, hk.layNil key, hv, hA⟩

theorem N_sBump (x : MA) (m : MS) {S T : Nat} (hk : m.ok S T) (hS : S ≤ 1000000000) (hT : T ≤ 1000000000) (key : Str) (hkey : key.length ≤ 1000000000000) :
    Ct Tryz.prog 49 [mv x m, str key] (mr x m) (fun _ => True) (fun v A' => ∃ x' m' n, m.bump key = (m', n) ∧ m'.ok (S + 1) (T + 1) ∧ (0 ≤ n ∧ n ≤ 999) ∧ v = .tuple #[mv x' m', .int .i64 n] ∧ A' = mr x' m') :=
  (C_sBump x.a0 x.a1 x.a2 x.c0 x.c1 x.c2 m key (by have := hk.1; omega) (by have := hk.2.1; omega) (by have := hk.2.2.1; omega) (Nat.le_trans (hk.getKey key) (by decide)) hkey).weak (fun _ h => h) fun v A' ⟨x0, y0, x1, y1, x2, y2, hv, hA⟩ => ⟨⟨x0, y0, x1, y1, x2, y2⟩, (m.bump key).1, (m.bump key).2, rfl, hk.bump key, (bump_lo m key), hv, hA⟩

end Go.Proofs.YtkmpmjficoohkaaGreatDoor

set_option linter.unusedSimpArgs false
set_option linter.unusedVariables false
set_option linter.unnecessarySimpa false
namespace Go.Proofs.YtkmpmjficoohkaaGreatDoor
open Go Go.RowKit
attribute [local irreducible] JL JC JQ JO LO PO JA JX Ct

theorem tmod10 (k : Nat) : (-((k : Nat) : Int)).tmod 10 = -((k % 10 : Nat) : Int) := by
  rw [Int.neg_tmod]; rfl
theorem tdiv10 (k : Nat) : (-((k : Nat) : Int)).tdiv 10 = -((k / 10 : Nat) : Int) := by
  rw [Int.neg_tdiv]; rfl
theorem dec_neg {k : Nat} (h : 0 < k) : dec (-((k : Nat) : Int)) = 45 :: mtAcc k [] := by
  unfold dec Lib.itoa
  rw [if_pos (by omega), show (-((k : Nat) : Int)).natAbs = k by omega, mtAcc_dec k k h (Nat.le_refl _)]

theorem C_sDecM (k : Nat) (h0 : 0 < k) (h1 : k ≤ 9223372036854775808) :
    Ct Tryz.prog 65 [.int .i64 (-((k : Nat) : Int))] [] (fun _ => True) (fun v A' => v = str (dec (-((k : Nat) : Int))) ∧ A' = []) := by
  refine Ct.intro Tryz.func65 rfl Tryz.ntmps65 (lb rfl) fun w0 hpre => ?_
  refine jC <| jF <| jA (jG (v := str []) rfl) <| jE <| jB <| jC <| jC <| jF <| jA (jD (v := iv (-((k : Nat) : Int))) rfl) <| jA (PO.eqlI rfl rfl) ?_
  refine jE <| jB ?_
  by_cases h_1 : (-((k : Nat) : Int)) = 0
  · exfalso; omega
  refine jL (cB (dF h_1)) <| jM <| jB <| jC <| jF <| jA (jD (v := iv (-((k : Nat) : Int))) rfl) <| jA (jb rfl rfl) <| jA (jG (v := .bool (decide ((-((k : Nat) : Int)) < 0))) rfl) <| jE <| jB ?_
  refine jC <| jF <| jA (jG (v := str []) rfl) <| jE <| jB <| jC <| jZ <| jo (fun k_ e_ L_ => ∃ k1 : Nat, ∃ o_ : Str, (k1 ≤ k) ∧ (o_.length = 0 ∨ o_.length + k1 ≤ k / 2 + 1) ∧ (mtAcc k1 o_ = mtAcc k []) ∧ e_ 0 = iv (-((k1 : Nat) : Int)) ∧ e_ 2 = str [] ∧ e_ 3 = .bool (decide ((-((k : Nat) : Int)) < 0)) ∧ e_ 4 = str o_ ∧ L_ = [] ∧ k_ = k1 + 1) _ ⟨k, [], by omega, (by simp), rfl, rfl, rfl, rfl, rfl, rfl, rfl⟩ ?_
  rintro _ e_2 _ ⟨k1, o_, hk, hl, hR, he_3, he_4, he_5, he_6, rfl, rfl⟩
  refine jC <| jC <| jF <| jA (jD (v := iv (-((k1 : Nat) : Int))) he_3) <| jA (jf rfl rfl) <| jE <| jB ?_
  by_cases h_7 : (-((k1 : Nat) : Int)) = 0
  · refine jL (cB (cN (dT h_7))) <| jm <| jY <| jY <| jn <| jB <| jC <| jC <| jF <| jA (jD (v := .bool (decide ((-((k : Nat) : Int)) < 0))) he_5) ?_
    refine jE <| jB ?_
    by_cases h_8 : (-((k : Nat) : Int)) < 0
    · refine jQ (cB (dT h_8)) <| jC <| jF <| jA (jD (v := str o_) he_6) <| jA (PO.addS rfl rfl (by (try simp only [List.length_append, List.length_cons, List.length_nil, List.length_drop, List.length_take]); omega)) <| jA (jG (v := str ([45] ++ o_)) rfl) <| jE <| jB <| jK <| jO ?_
      refine jN (.inl rfl) rfl (jJ (v := str ([45] ++ o_)) rfl) (List.nil_sublist _) ?_
      refine ⟨?_, rfl⟩
      rw [dec_neg (by omega), ← hR, mtAcc_zero (by omega)]
      rfl
    exfalso; omega
  refine jQ (cB (cN (dF h_7))) <| jM <| jB <| jZ <| jC <| jF <| jA (jD (v := iv (-((k1 : Nat) : Int))) he_3) <| jA (PO.rem (c := -((k1 % 10 : Nat) : Int)) rfl rfl (by omega) (tmod10 k1)) <| jA (jG (v := iv (-((k1 % 10 : Nat) : Int))) rfl) <| jE ?_
  refine jB <| jC <| jC <| jF <| jA (jD (v := iv (-((k1 % 10 : Nat) : Int))) rfl) <| jA (jb rfl rfl) <| jE <| jB ?_
  by_cases h_9 : (-((k1 % 10 : Nat) : Int)) < 0
  · refine jQ (cB (dT h_9)) <| jF <| jA (jD (v := iv (-((k1 % 10 : Nat) : Int))) rfl) <| jA (PO.neg (c := ((k1 % 10 : Nat) : Int)) rfl (wr (by omega))) <| jA (jG (v := iv ((k1 % 10 : Nat) : Int)) rfl) <| jE <| jB <| jC <| jF <| jA (jD (v := iv ((k1 % 10 : Nat) : Int)) rfl) ?_
    refine jI rfl (jR [] Tryz.call81 rfl (C_figure (k1 % 10) (by omega)) rfl (fun _ _ => trivial)) ?_
    rintro _ _ ⟨_, ⟨rfl, rfl⟩, rfl⟩
    refine jI rfl (jy (ps := [(0, .int .u8 ((48 + (k1 % 10) : Nat) : Int))]) (cur := #[.int .u8 ((48 + (k1 % 10) : Nat) : Int)]) Tryz.underlying95 Tryz.sizeOf5 Tryz.zeroValue5 rfl (by kernel_rfl) (by decide) (by decide)) ?_
    rintro _ _ ⟨a_10, rfl, rfl⟩
    refine jP (LO.toStr 0 [UInt8.ofNat (48 + (k1 % 10))] rfl Tryz.underlying95 Tryz.underlying5 kN rfl (by rw [List.map_cons, List.map_nil, encB_of _ (by omega)])) <| jA (jD (v := str o_) he_6) <| jA (PO.addS rfl rfl (by (try simp only [List.length_append, List.length_cons, List.length_nil, List.length_drop, List.length_take]); omega)) <| jA (jG (v := str ([UInt8.ofNat (48 + (k1 % 10))] ++ o_)) rfl) <| jE <| jB <| jF <| jA (jD (v := iv (-((k1 : Nat) : Int))) he_3) <| jA (PO.quo (c := -((k1 / 10 : Nat) : Int)) rfl rfl (by omega) ((congrArg _ (tdiv10 k1)).trans (wr (by omega)))) <| jA (jG (v := iv (-((k1 / 10 : Nat) : Int))) rfl) ?_
    refine jE <| jk <| JQ.pick [] (A := []) rfl ?_
    refine jl (k1 / 10 + 1) (by omega) ⟨(k1 / 10), [UInt8.ofNat (48 + (k1 % 10))] ++ o_, by omega, (by simp only [List.length_append, List.length_cons, List.length_nil]; omega), (by rw [mtAcc_step (by omega)]; exact hR), rfl, he_4, he_5, rfl, rfl, rfl⟩
  have hz_11 : -((k1 % 10 : Nat) : Int) = ((k1 % 10 : Nat) : Int) := by omega
  have hz_12 : -((k1 % 10 : Nat) : Int) = ((k1 % 10 : Nat) : Int) := by omega
  have hz_13 : -((k1 % 10 : Nat) : Int) = ((k1 % 10 : Nat) : Int) := by omega
  refine jL (cB (dF h_9)) <| jM <| jB <| jC <| jF <| jA (jD (v := iv ((k1 % 10 : Nat) : Int)) (congrArg (Value.int .i64) hz_12)) ?_
  refine jI rfl (jR [] Tryz.call81 rfl (C_figure (k1 % 10) (by omega)) rfl (fun _ _ => trivial)) ?_
  rintro _ _ ⟨_, ⟨rfl, rfl⟩, rfl⟩
  refine jI rfl (jy (ps := [(0, .int .u8 ((48 + (k1 % 10) : Nat) : Int))]) (cur := #[.int .u8 ((48 + (k1 % 10) : Nat) : Int)]) Tryz.underlying95 Tryz.sizeOf5 Tryz.zeroValue5 rfl (by kernel_rfl) (by decide) (by decide)) ?_
  rintro _ _ ⟨a_14, rfl, rfl⟩
  refine jP (LO.toStr 0 [UInt8.ofNat (48 + (k1 % 10))] rfl Tryz.underlying95 Tryz.underlying5 kN rfl (by rw [List.map_cons, List.map_nil, encB_of _ (by omega)])) <| jA (jD (v := str o_) he_6) <| jA (PO.addS rfl rfl (by (try simp only [List.length_append, List.length_cons, List.length_nil, List.length_drop, List.length_take]); omega)) <| jA (jG (v := str ([UInt8.ofNat (48 + (k1 % 10))] ++ o_)) rfl) <| jE <| jB <| jF <| jA (jD (v := iv (-((k1 : Nat) : Int))) he_3) <| jA (PO.quo (c := -((k1 / 10 : Nat) : Int)) rfl rfl (by omega) ((congrArg _ (tdiv10 k1)).trans (wr (by omega)))) <| jA (jG (v := iv (-((k1 / 10 : Nat) : Int))) rfl) ?_
  refine jE <| jk <| JQ.pick [] (A := []) rfl ?_
  refine jl (k1 / 10 + 1) (by omega) ⟨(k1 / 10), [UInt8.ofNat (48 + (k1 % 10))] ++ o_, by omega, (by simp only [List.length_append, List.length_cons, List.length_nil]; omega), (by rw [mtAcc_step (by omega)]; exact hR), rfl, he_4, he_5, rfl, rfl, rfl⟩

theorem C_sDecP (k : Nat) (h1 : k ≤ 9223372036854775807) :
    Ct Tryz.prog 65 [.int .i64 ((k : Nat) : Int)] [] (fun _ => True) (fun v A' => v = str (dec ((k : Nat) : Int)) ∧ A' = []) := by
  refine Ct.intro Tryz.func65 rfl Tryz.ntmps65 (lb rfl) fun w0 hpre => ?_
  refine jC <| jF <| jA (jG (v := str []) rfl) <| jE <| jB <| jC <| jC <| jF <| jA (jD (v := nv k) rfl) <| jA (PO.eqlI rfl rfl) ?_
  refine jE <| jB ?_
  by_cases h_1 : ((k : Nat) : Int) = 0
  · refine jQ (cB (dT h_1)) <| jC <| jF <| jA (jG (v := str [48]) rfl) <| jE <| jB <| jK <| jO <| jN (.inl rfl) rfl (jJ (v := str [48]) rfl) (List.nil_sublist _) ?_
    refine ⟨?_, rfl⟩
    rw [show ((k : Nat) : Int) = 0 by omega, dec_zero]
  refine jL (cB (dF h_1)) <| jM <| jB <| jC <| jF <| jA (jD (v := nv k) rfl) <| jA (jb rfl rfl) <| jA (jG (v := .bool (decide (((k : Nat) : Int) < 0))) rfl) <| jE <| jB ?_
  refine jC <| jF <| jA (jG (v := str []) rfl) <| jE <| jB <| jC <| jZ <| jo (fun k_ e_ L_ => ∃ k1 : Nat, ∃ o_ : Str, (k1 ≤ k) ∧ (o_.length + k1 ≤ k) ∧ (mtAcc k1 o_ = mtAcc k []) ∧ e_ 0 = nv k1 ∧ e_ 2 = str [] ∧ e_ 3 = .bool (decide (((k : Nat) : Int) < 0)) ∧ e_ 4 = str o_ ∧ L_ = [] ∧ k_ = k1 + 1) _ ⟨k, [], by omega, (by simp), rfl, rfl, rfl, rfl, rfl, rfl, rfl⟩ ?_
  rintro _ e_2 _ ⟨k1, o_, hk, hl, hR, he_3, he_4, he_5, he_6, rfl, rfl⟩
  refine jC <| jC <| jF <| jA (jD (v := nv k1) he_3) <| jA (jf rfl rfl) <| jE <| jB ?_
  by_cases h_7 : ((k1 : Nat) : Int) = 0
  · refine jL (cB (cN (dT h_7))) <| jm <| jY <| jY <| jn <| jB <| jC <| jC <| jF <| jA (jD (v := .bool (decide (((k : Nat) : Int) < 0))) he_5) ?_
    refine jE <| jB ?_
    by_cases h_8 : ((k : Nat) : Int) < 0
    · exfalso; omega
    refine jL (cB (dF h_8)) <| jM <| jB <| jC <| jF <| jA (jD (v := str o_) he_6) <| jA (jG (v := str o_) rfl) <| jE <| jB <| jK ?_
    refine jN (.inl rfl) rfl (jJ (v := str o_) rfl) (List.nil_sublist _) ?_
    refine ⟨?_, rfl⟩
    rw [dec_nat (by omega), ← hR, mtAcc_zero (by omega)]
  refine jQ (cB (cN (dF h_7))) <| jM <| jB <| jZ <| jC <| jF <| jA (jD (v := nv k1) he_3) <| jA (PO.remN (c := ((k1 % 10 : Nat) : Int)) rfl rfl (by omega) (by omega) (by omega)) <| jA (jG (v := iv ((k1 % 10 : Nat) : Int)) rfl) <| jE ?_
  refine jB <| jC <| jC <| jF <| jA (jD (v := iv ((k1 % 10 : Nat) : Int)) rfl) <| jA (jb rfl rfl) <| jE <| jB ?_
  by_cases h_9 : ((k1 % 10 : Nat) : Int) < 0
  · exfalso; omega
  refine jL (cB (dF h_9)) <| jM <| jB <| jC <| jF <| jA (jD (v := iv ((k1 % 10 : Nat) : Int)) rfl) ?_
  refine jI rfl (jR [] Tryz.call81 rfl (C_figure (k1 % 10) (by omega)) rfl (fun _ _ => trivial)) ?_
  rintro _ _ ⟨_, ⟨rfl, rfl⟩, rfl⟩
  refine jI rfl (jy (ps := [(0, .int .u8 ((48 + (k1 % 10) : Nat) : Int))]) (cur := #[.int .u8 ((48 + (k1 % 10) : Nat) : Int)]) Tryz.underlying95 Tryz.sizeOf5 Tryz.zeroValue5 rfl (by kernel_rfl) (by decide) (by decide)) ?_
  rintro _ _ ⟨a_10, rfl, rfl⟩
  refine jP (LO.toStr 0 [UInt8.ofNat (48 + (k1 % 10))] rfl Tryz.underlying95 Tryz.underlying5 kN rfl (by rw [List.map_cons, List.map_nil, encB_of _ (by omega)])) <| jA (jD (v := str o_) he_6) <| jA (PO.addS rfl rfl (by (try simp only [List.length_append, List.length_cons, List.length_nil, List.length_drop, List.length_take]); omega)) <| jA (jG (v := str ([UInt8.ofNat (48 + (k1 % 10))] ++ o_)) rfl) <| jE <| jB <| jF <| jA (jD (v := nv k1) he_3) <| jA (PO.quoN (c := ((k1 / 10 : Nat) : Int)) rfl rfl (by omega) (by omega) (by omega) (wr (by omega))) <| jA (jG (v := iv ((k1 / 10 : Nat) : Int)) rfl) ?_
  refine jE <| jk <| JQ.pick [] (A := []) rfl ?_
  refine jl (k1 / 10 + 1) (by omega) ⟨(k1 / 10), [UInt8.ofNat (48 + (k1 % 10))] ++ o_, by omega, (by simp only [List.length_append, List.length_cons, List.length_nil]; omega), (by rw [mtAcc_step (by omega)]; exact hR), rfl, he_4, he_5, rfl, rfl, rfl⟩

theorem N_sDec (n : Int) (hn : -9223372036854775808 ≤ n ∧ n ≤ 9223372036854775807) : Ct Tryz.prog 65 [.int .i64 n] [] (fun _ => True) (fun v A' => ∃ r0, dec n = r0 ∧ r0.length ≤ 21 ∧ v = str r0 ∧ A' = []) := by
  have h21 := dec_len21 hn.1 hn.2
  by_cases h : 0 ≤ n
  · have := C_sDecP n.toNat (by omega)
    rw [Int.toNat_of_nonneg h] at this
    exact this.weak (fun _ h => h) fun v A' ⟨h1, h2⟩ => ⟨_, rfl, h21, h1, h2⟩
  · have := C_sDecM (-n).toNat (by omega) (by omega)
    rw [Int.toNat_of_nonneg (by omega), Int.neg_neg] at this
    exact this.weak (fun _ h => h) fun v A' ⟨h1, h2⟩ => ⟨_, rfl, h21, h1, h2⟩

theorem N_dec (n : Int) (hn : -9223372036854775808 ≤ n ∧ n ≤ 9223372036854775807) : Ct Tryz.prog 71 [.int .i64 n] [] (fun _ => True) (fun v A' => ∃ r0, dec n = r0 ∧ r0.length ≤ 21 ∧ v = str r0 ∧ A' = []) :=
  (C_decimal n hn.1 hn.2).weak (fun _ h => h) fun v A' ⟨h1, h2⟩ => ⟨_, rfl, dec_len21 hn.1 hn.2, h1, h2⟩

theorem N_numOf (t : Str) (ht : t.length ≤ 1000000000000) : Ct Tryz.prog 68 [str t] [] (fun _ => True) (fun v A' => ∃ r0, numOf t = r0 ∧ (0 ≤ r0 ∧ r0 ≤ 999) ∧ v = .int .i64 r0 ∧ A' = []) :=
  (C_numOf t (by omega)).weak (fun _ h => h) fun v A' ⟨h1, h2⟩ => ⟨_, rfl, numOf_lo t, h1, h2⟩

theorem N_sNumOf (t : Str) (ht : t.length ≤ 1000000000000) : Ct Tryz.prog 63 [str t] [] (fun _ => True) (fun v A' => ∃ r0, numOf t = r0 ∧ (0 ≤ r0 ∧ r0 ≤ 999) ∧ v = .int .i64 r0 ∧ A' = []) :=
  (C_sNumOf t (by omega)).weak (fun _ h => h) fun v A' ⟨h1, h2⟩ => ⟨_, rfl, numOf_lo t, h1, h2⟩

theorem N_sNumAt (x : MA) (m : MS) {S T : Nat} (hk : m.ok S T) (hS : S ≤ 900000000) (hT : T ≤ 900000000) (key : Str) :
    Ct Tryz.prog 48 [mv x m, str key] (mr x m) (fun _ => True) (fun v A' => ∃ x' m' r0, MS.num m key = (m', r0) ∧ m'.ok (S) (T + 1) ∧ (0 ≤ r0 ∧ r0 ≤ 999) ∧ v = .tuple #[mv x' m', .int .i64 r0] ∧ A' = mr x' m') := by
  refine Ct.intro Tryz.func48 rfl Tryz.ntmps48 (lb rfl) fun w0 hpre => ?_
  refine jC <| jF ?_
  refine jI rfl (jp (cs := (mc x m)) rfl rfl) ?_
  rintro _ _ ⟨b_1, rfl, rfl⟩
  refine jI rfl (JO.alloc (z := zM) (cs := zC) Tryz.zeroValue52 rfl) ?_
  rintro _ _ ⟨b_2, rfl, rfl⟩
  refine jA (jG (v := iv 0) rfl) <| jE <| jB <| jC <| jF <| jP (LO.ldM 1 x m rfl rfl) <| jA (jD (v := str key) rfl) ?_
  refine jI rfl (jR [2, 2, 2] Tryz.call62 rfl (N_sLook x m hk (by omega) (by omega) key) rfl (fun _ _ => trivial)) ?_
  rintro _ _ ⟨_, ⟨x_5, m_6, u_7, e_3, k_4, f_8, rfl, rfl⟩, rfl⟩
  refine jA (jD (v := .tuple #[mv x_5 m_6, str u_7]) rfl) <| jA (PO.extract (v := mv x_5 m_6) rfl rfl) <| jA (PO.extract (v := str u_7) rfl rfl) ?_
  refine jI rfl (JO.stM 4 x_5 m_6 rfl rfl rfl rfl) ?_
  rintro _ _ rfl
  refine jA (jG (v := str u_7) rfl) <| jE <| jB <| jC <| jv [mb b_1 x_5 m_6] 3 mixed (by simp) <| jw 0 rfl (LO.ldM 0 x_5 m_6 rfl rfl) <| jW 1 rfl (jD (v := str u_7) rfl) <| jx (i := 2) ?_
  refine jz rfl rfl (jR [] Tryz.call63 rfl (N_sNumOf u_7 (by omega)) rfl (fun _ _ => trivial)) ?_
  rintro _ _ ⟨_, ⟨n_15, e_13, f_16, rfl, rfl⟩, rfl⟩
  refine ⟨(by simp), ?_⟩
  refine jx (i := 3) ?_
  refine JX.lt rfl (JO.stM 3 x_5 m_6 rfl rfl rfl rfl) ?_
  rintro _ _ rfl
  refine jW 4 rfl (jG (v := iv n_15) rfl) <| kB (by kernel_rfl) <| jB <| jK <| Done.two (.inl rfl) rfl (RV.cell1 (LO.ldM 3 x_5 m_6 rfl rfl) ⟨_, rfl⟩) (jJ (v := iv n_15) rfl) (tS 3 _) ?_
  exact ⟨x_5, m_6, n_15, (by simp only [MS.num, e_3, e_13, SB]; (repeat (first | rw [if_pos (by omega)] | rw [if_neg (by omega)])); all_goals (first | rfl | simp only [SB, e_3, e_13])), (k_4.mono (by omega) (by omega)), (by first | omega | (simp only [LE]; omega)), rfl, rfl⟩

theorem N_sSetNum (x : MA) (m : MS) {S T : Nat} (hk : m.ok S T) (hS : S ≤ 900000000) (hT : T ≤ 900000000) (key : Str) (n : Int) (hkey : key.length ≤ 1000000000000) (hn : -9223372036854775808 ≤ n ∧ n ≤ 9223372036854775807) :
    Ct Tryz.prog 50 [mv x m, str key, .int .i64 n] (mr x m) (fun _ => True) (fun v A' => ∃ x' m', MS.setNum m key n = m' ∧ m'.ok (S + 1) (T + 1) ∧ v = mv x' m' ∧ A' = mr x' m') := by
  refine Ct.intro Tryz.func50 rfl Tryz.ntmps50 (lb rfl) fun w0 hpre => ?_
  refine jC <| jF ?_
  refine jI rfl (jp (cs := (mc x m)) rfl rfl) ?_
  rintro _ _ ⟨b_1, rfl, rfl⟩
  refine jI rfl (JO.alloc (z := zM) (cs := zC) Tryz.zeroValue52 rfl) ?_
  rintro _ _ ⟨b_2, rfl, rfl⟩
  refine jE <| jB <| jC <| jC <| jF <| jA (jD (v := iv n) rfl) ?_
  refine jI rfl (jR [] Tryz.call66 rfl (C_l01In n 1 999) rfl (fun _ _ => trivial)) ?_
  rintro _ _ ⟨_, ⟨rfl, rfl⟩, rfl⟩
  refine jA (jq rfl) <| jE <| jB ?_
  rcases Bool.eq_false_or_eq_true (decide (1 ≤ n) && decide (n ≤ 999)) with h_3 | h_3
  · have h_3d := h_3
    simp only [Bool.and_eq_true, Bool.and_eq_false_iff, decide_eq_true_eq, decide_eq_false_iff_not] at h_3d
    refine jL (cB (cN h_3)) <| jM <| jB <| jC <| jv [mb b_1 x m] 4 mixed (by simp) <| jw 0 rfl (LO.ldM 0 x m rfl rfl) <| jW 1 rfl (jD (v := str key) rfl) <| jW 2 rfl (jD (v := iv n) rfl) <| jx (i := 3) ?_
    refine jz rfl rfl (jR [] Tryz.call65 rfl (N_sDec n (by omega)) rfl (fun _ _ => trivial)) ?_
    rintro _ _ ⟨_, ⟨u_10, e_8, f_11, rfl, rfl⟩, rfl⟩
    refine ⟨(by simp), ?_⟩
    refine jx (i := 4) ?_
    refine JX.lt rfl (jR [2, 2, 2] Tryz.call64 rfl (N_sLay x m hk (by omega) (by omega) key u_10 (by omega)) rfl (fun _ _ => trivial)) ?_
    rintro _ _ ⟨_, ⟨x_18, m_19, e_16, k_17, rfl, rfl⟩, rfl⟩
    refine jx (i := 5) ?_
    refine JX.ls rfl (JO.stM 3 x_18 m_19 rfl rfl rfl rfl) ?_
    rintro _ _ rfl
    refine jB <| jK <| jN (.inl rfl) rfl (RV.cell1 (LO.ldM 3 x_18 m_19 rfl rfl) ⟨_, rfl⟩) (tS 3 _) ?_
    exact ⟨x_18, m_19, (by simp only [MS.setNum, h_3, e_8, e_16, SB]; (repeat (first | rw [if_pos (by omega)] | rw [if_neg (by omega)])); all_goals (first | rfl | simp only [SB, h_3, e_8, e_16])), (k_17.mono (by omega) (by omega)), rfl, rfl⟩
  have h_3d := h_3
  simp only [Bool.and_eq_true, Bool.and_eq_false_iff, decide_eq_true_eq, decide_eq_false_iff_not] at h_3d
  refine jQ (cB (cN h_3)) <| jC <| jF <| jP (LO.ldM 1 x m rfl rfl) <| jA (jD (v := str key) rfl) ?_
  refine jI rfl (jR [2, 2, 2] Tryz.call64 rfl (N_sLayNil x m hk (by omega) (by omega) key (by omega)) rfl (fun _ _ => trivial)) ?_
  rintro _ _ ⟨_, ⟨x_22, m_23, e_20, k_21, rfl, rfl⟩, rfl⟩
  refine jI rfl (JO.stM 3 x_22 m_23 rfl rfl rfl rfl) ?_
  rintro _ _ rfl
  refine jE <| jB <| jK <| jO <| jN (.inl rfl) rfl (RV.cell1 (LO.ldM 3 x_22 m_23 rfl rfl) ⟨_, rfl⟩) (tS 3 _) ?_
  exact ⟨x_22, m_23, (by simp only [MS.setNum, h_3, e_20, SB]; (repeat (first | rw [if_pos (by omega)] | rw [if_neg (by omega)])); all_goals (first | rfl | simp only [SB, h_3, e_20])), (k_21.mono (by omega) (by omega)), rfl, rfl⟩

theorem N_keyNum {hb tb : Nat} (h : Str) (n : Int) (t : Str) (hh : h.length ≤ hb) (hn : -9223372036854775808 ≤ n ∧ n ≤ 9223372036854775807) (ht : t.length ≤ tb) (hq : hb + tb ≤ 1000000) :
    Ct Tryz.prog 73 [str h, .int .i64 n, str t] ([]) (fun _ => True) (fun v A' => ∃ r0, keyNum h n t = r0 ∧ r0.length ≤ hb + 21 + tb ∧ v = str r0 ∧ A' = []) := by
  refine Ct.intro Tryz.func73 rfl Tryz.ntmps73 (lb rfl) fun w0 hpre => ?_
  refine jC <| jF <| jA (jG (v := str []) rfl) <| jE <| jB <| jC <| jF <| jA (jD (v := str h) rfl) <| jA (jD (v := iv n) rfl) ?_
  refine jI rfl (jR [] Tryz.call71 rfl (N_dec n (by omega)) rfl (fun _ _ => trivial)) ?_
  rintro _ _ ⟨_, ⟨u_3, e_1, f_4, rfl, rfl⟩, rfl⟩
  refine jA (PO.addS rfl rfl (by (try simp only [List.length_append, List.length_cons, List.length_nil, List.length_drop, List.length_take]); omega)) <| jA (jD (v := str t) rfl) <| jA (PO.addS rfl rfl (by (try simp only [List.length_append, List.length_cons, List.length_nil, List.length_drop, List.length_take]); omega)) <| jA (jG (v := str ((h ++ u_3) ++ t)) rfl) <| jE <| jB <| jK <| jN (.inl rfl) rfl (jJ (v := str ((h ++ u_3) ++ t)) rfl) (List.nil_sublist _) ?_
  exact ⟨((h ++ u_3) ++ t), (by simp only [keyNum, e_1, SB]; (repeat (first | rw [if_pos (by omega)] | rw [if_neg (by omega)])); all_goals (first | rfl | simp only [SB, e_1])), (by first | omega | (simp only [LE]; omega)), rfl, rfl⟩

theorem N_sKeyNum {hb tb : Nat} (h : Str) (n : Int) (t : Str) (hh : h.length ≤ hb) (hn : -9223372036854775808 ≤ n ∧ n ≤ 9223372036854775807) (ht : t.length ≤ tb) (hq : hb + tb ≤ 1000000) :
    Ct Tryz.prog 67 [str h, .int .i64 n, str t] ([]) (fun _ => True) (fun v A' => ∃ r0, keyNum h n t = r0 ∧ r0.length ≤ hb + 21 + tb ∧ v = str r0 ∧ A' = []) := by
  refine Ct.intro Tryz.func67 rfl Tryz.ntmps67 (lb rfl) fun w0 hpre => ?_
  refine jC <| jF <| jA (jG (v := str []) rfl) <| jE <| jB <| jC <| jF <| jA (jD (v := str h) rfl) <| jA (jD (v := iv n) rfl) ?_
  refine jI rfl (jR [] Tryz.call65 rfl (N_sDec n (by omega)) rfl (fun _ _ => trivial)) ?_
  rintro _ _ ⟨_, ⟨u_3, e_1, f_4, rfl, rfl⟩, rfl⟩
  refine jA (PO.addS rfl rfl (by (try simp only [List.length_append, List.length_cons, List.length_nil, List.length_drop, List.length_take]); omega)) <| jA (jD (v := str t) rfl) <| jA (PO.addS rfl rfl (by (try simp only [List.length_append, List.length_cons, List.length_nil, List.length_drop, List.length_take]); omega)) <| jA (jG (v := str ((h ++ u_3) ++ t)) rfl) <| jE <| jB <| jK <| jN (.inl rfl) rfl (jJ (v := str ((h ++ u_3) ++ t)) rfl) (List.nil_sublist _) ?_
  exact ⟨((h ++ u_3) ++ t), (by simp only [keyNum, e_1, SB]; (repeat (first | rw [if_pos (by omega)] | rw [if_neg (by omega)])); all_goals (first | rfl | simp only [SB, e_1])), (by first | omega | (simp only [LE]; omega)), rfl, rfl⟩

theorem N_procKey {tb : Nat} (id : Int) (t : Str) (hid : -9223372036854775808 ≤ id ∧ id ≤ 9223372036854775807) (ht : t.length ≤ tb) (hq : tb ≤ 900000) :
    Ct Tryz.prog 55 [.int .i64 id, str t] ([]) (fun _ => True) (fun v A' => ∃ r0, keyNum ([114, 47] : Str) id t = r0 ∧ r0.length ≤ 2 + 21 + tb ∧ v = str r0 ∧ A' = []) := by
  refine Ct.intro Tryz.func55 rfl Tryz.ntmps55 (lb rfl) fun w0 hpre => ?_
  refine jC <| jF <| jA (jG (v := str []) rfl) <| jE <| jB <| jC <| jF <| jA (jD (v := iv id) rfl) <| jA (jD (v := str t) rfl) ?_
  refine jI rfl (jR [] Tryz.call73 rfl (N_keyNum [114, 47] id t (show List.length ([114, 47] : Str) ≤ 2 by decide) (by omega) (Nat.le_refl _) (by omega)) rfl (fun _ _ => trivial)) ?_
  rintro _ _ ⟨_, ⟨u_3, e_1, f_4, rfl, rfl⟩, rfl⟩
  refine jA (jG (v := str u_3) rfl) <| jE <| jB <| jK <| jN (.inl rfl) rfl (jJ (v := str u_3) rfl) (List.nil_sublist _) ?_
  exact ⟨u_3, (by simp only [if_true, e_1, SB]; (repeat (first | rw [if_pos (by omega)] | rw [if_neg (by omega)])); all_goals (first | rfl | simp only [SB, e_1])), (by first | omega | (simp only [LE]; omega)), rfl, rfl⟩

theorem N_l09Key {tb : Nat} (id : Int) (t : Str) (hid : -9223372036854775808 ≤ id ∧ id ≤ 9223372036854775807) (ht : t.length ≤ tb) (hq : tb ≤ 900000) :
    Ct Tryz.prog 51 [.int .i64 id, str t] ([]) (fun _ => True) (fun v A' => ∃ r0, keyNum ([114, 47] : Str) id t = r0 ∧ r0.length ≤ 2 + 21 + tb ∧ v = str r0 ∧ A' = []) := by
  refine Ct.intro Tryz.func51 rfl Tryz.ntmps51 (lb rfl) fun w0 hpre => ?_
  refine jC <| jF <| jA (jG (v := str []) rfl) <| jE <| jB <| jC <| jF <| jA (jD (v := iv id) rfl) <| jA (jD (v := str t) rfl) ?_
  refine jI rfl (jR [] Tryz.call67 rfl (N_sKeyNum [114, 47] id t (show List.length ([114, 47] : Str) ≤ 2 by decide) (by omega) (Nat.le_refl _) (by omega)) rfl (fun _ _ => trivial)) ?_
  rintro _ _ ⟨_, ⟨u_3, e_1, f_4, rfl, rfl⟩, rfl⟩
  refine jA (jG (v := str u_3) rfl) <| jE <| jB <| jK <| jN (.inl rfl) rfl (jJ (v := str u_3) rfl) (List.nil_sublist _) ?_
  exact ⟨u_3, (by simp only [if_true, e_1, SB]; (repeat (first | rw [if_pos (by omega)] | rw [if_neg (by omega)])); all_goals (first | rfl | simp only [SB, e_1])), (by first | omega | (simp only [LE]; omega)), rfl, rfl⟩

end Go.Proofs.YtkmpmjficoohkaaGreatDoor

set_option linter.unusedSimpArgs false
set_option linter.unusedVariables false
set_option linter.unnecessarySimpa false
namespace Go.Proofs.YtkmpmjficoohkaaGreatDoor
open Go Go.RowKit

def underL (p : Str) : List Cell → List Str → List Str
  | [], out => out
  | c :: s, out => if prefixB c.1 p = true then underL p s (out ++ [c.1]) else underL p s out
theorem underL_app (p : Str) : ∀ (s : List Cell) (out : List Str), underL p s out = out ++ keysUnder s p
  | [], out => by simp [underL, keysUnder]
  | c :: s, out => by
    unfold underL
    cases h : prefixB c.1 p with
    | true => rw [if_pos rfl, underL_app p s]; simp [keysUnder, h]
    | false => rw [if_neg (by simp), underL_app p s]; simp [keysUnder, h]
theorem underL_nil (p : Str) (s : List Cell) : underL p s [] = keysUnder s p := by rw [underL_app]; rfl
theorem keysUnder_len (s : List Cell) (p : Str) : (keysUnder s p).length ≤ s.length := by
  unfold keysUnder
  rw [List.length_map]
  exact List.length_filter_le _ _
theorem begins_eq (s p : Str) : prefixB s p = (decide ((p.length : Int) ≤ s.length) && decide (s.take p.length = p)) := by
  unfold prefixB
  congr 1
  exact decide_eq_decide.2 (by omega)
theorem isKid_short {k : Str} (h : ¬ (5 : Int) ≤ (k.length : Int)) : MS.isKid k = false := by
  unfold MS.isKid
  rw [decide_eq_false (by omega)]; rfl
theorem isKid_short' {k : Str} (h : (k.length : Int) < 5) : MS.isKid k = false := isKid_short (by omega)
theorem isKid_yes {k : Str} (h : (5 : Int) ≤ (k.length : Int)) (h2 : k.drop (k.length - 2) = [47, 112]) : MS.isKid k = true := by
  unfold MS.isKid
  rw [decide_eq_true (by omega), decide_eq_true h2]; rfl
theorem isKid_no {k : Str} (h2 : ¬ k.drop (k.length - 2) = [47, 112]) : MS.isKid k = false := by
  unfold MS.isKid
  rw [decide_eq_false h2, Bool.and_false]
theorem cutSuf_kid {k u : Str} {b : Bool} (h : cutSuf k [47, 112] = (u, b)) (h5 : (5 : Int) ≤ (k.length : Int)) : MS.isKid k = b := by
  unfold cutSuf suffixB at h
  simp only [List.length_cons, List.length_nil] at h
  rw [decide_eq_true (by omega), Bool.true_and] at h
  by_cases h2 : k.drop (k.length - (0 + 1 + 1)) = [47, 112]
  · rw [isKid_yes h5 h2]
    simp [h2] at h
    exact h.2.symm
  · rw [isKid_no h2]
    simp [h2] at h
    exact h.2.symm
theorem cutSuf_kidT {k u : Str} (h : cutSuf k [47, 112] = (u, true)) (h5 : (5 : Int) ≤ (k.length : Int)) : k.take (k.length - 2) = u ∧ 3 ≤ u.length := by
  unfold cutSuf at h
  split at h
  · simp only [Prod.mk.injEq, and_true] at h
    refine ⟨h, ?_⟩
    rw [← h, List.length_take]
    simp only [List.length_cons, List.length_nil]
    omega
  · simp at h
theorem drop_take2 (k : Str) (n : Nat) : (k.take n).drop 2 = (k.drop 2).take (n - 2) := by rw [List.drop_take]
end Go.Proofs.YtkmpmjficoohkaaGreatDoor

set_option linter.unusedSimpArgs false
set_option linter.unusedVariables false
set_option linter.unnecessarySimpa false
namespace Go.Proofs.YtkmpmjficoohkaaGreatDoor
open Go Go.RowKit
attribute [local irreducible] JL JC JQ JO LO PO JA JX Ct

theorem N_spawn (p : Nat) (x : MA) (m : MS) {S T : Nat} (hk : m.ok S T) (hS : S ≤ 300000000) (hT : T ≤ 300000000) (parent : Int) (hparent : -9223372036854775808 ≤ parent ∧ parent ≤ 9223372036854775807) :
    Ct Tryz.prog 30 [.pointer (some ⟨p, 0, none⟩), .int .i64 parent] (mb p x m :: mr x m) (fun _ => True) (fun v A' => ∃ x' m' r0 r1, MS.spawn m parent = (m', r0, r1) ∧ m'.ok (S + 3) (T + 4) ∧ (0 ≤ r0 ∧ r0 ≤ 999) ∧ (0 ≤ r1 ∧ r1 ≤ 9) ∧ v = .tuple #[.int .i64 r0, .int .i64 r1] ∧ A' = mb p x' m' :: mr x' m') := by
  refine Ct.intro Tryz.func30 rfl Tryz.ntmps30 (lb rfl) fun w0 hpre => ?_
  refine jC <| jF <| jA (jG (v := iv 0) rfl) <| jA (jG (v := iv 0) rfl) <| jE <| jB <| jC <| jC <| jF <| jA (jD (v := pv p) rfl) ?_
  refine jI rfl (jR [0, 0, 0, 0] Tryz.call52 rfl (N_num p x m hk (by omega) (by omega) [99, 47, 112, 114, 111, 99]) rfl (fun _ _ => trivial)) ?_
  rintro _ _ ⟨_, ⟨x_3, m_4, n_5, e_1, k_2, f_6, rfl, rfl⟩, rfl⟩
  refine jA (PO.geq rfl rfl) <| jE <| jB ?_
  by_cases h_7 : 12 ≤ n_5
  · refine jQ (cB (dT h_7)) <| jC <| jF <| jA (jG (v := iv 0) rfl) <| jA (jG (v := iv 3) rfl) <| jE <| jB <| jK <| jO <| Done.two (.inl rfl) rfl (jJ (v := iv 0) rfl) (jJ (v := iv 3) rfl) (List.Sublist.refl _) ?_
    exact ⟨x_3, m_4, 0, 3, (by simp only [MS.spawn, e_1, h_7, SB]; (repeat (first | rw [if_pos (by omega)] | rw [if_neg (by omega)])); all_goals (first | rfl | simp only [SB, e_1, h_7])), (k_2.mono (by omega) (by omega)), (by first | omega | (simp only [LE]; omega)), (by first | omega | (simp only [LE]; omega)), rfl, rfl⟩
  refine jL (cB (dF h_7)) <| jM <| jB <| jC <| jF <| jA (jD (v := pv p) rfl) ?_
  refine jI rfl (jR [0, 0, 0, 0] Tryz.call53 rfl (N_bump p x_3 m_4 k_2 (by omega) (by omega) [99, 47, 112, 114, 111, 99] (by decide)) rfl (fun _ _ => trivial)) ?_
  rintro _ _ ⟨_, ⟨x_10, m_11, n_12, e_8, k_9, f_13, rfl, rfl⟩, rfl⟩
  refine jA (jG (v := iv n_12) rfl) <| jE <| jB <| jC <| jF <| jA (jD (v := pv p) rfl) <| jA (jD (v := iv n_12) rfl) ?_
  refine jI rfl (jR [] Tryz.call55 rfl (N_procKey n_12 [47, 115] (by omega) (show List.length ([47, 115] : Str) ≤ 2 by decide) (by omega)) rfl (fun _ _ => trivial)) ?_
  rintro _ _ ⟨_, ⟨u_16, e_14, f_17, rfl, rfl⟩, rfl⟩
  refine jI rfl (jR [0, 0, 0, 0] Tryz.call54 rfl (N_setNum p x_10 m_11 k_9 (by omega) (by omega) u_16 1 (by omega) (by omega)) rfl (fun _ _ => trivial)) ?_
  rintro _ _ ⟨_, ⟨x_20, m_21, e_18, k_19, rfl, rfl⟩, rfl⟩
  refine jE <| jB <| jC <| jF <| jA (jD (v := pv p) rfl) <| jA (jD (v := iv n_12) rfl) ?_
  refine jI rfl (jR [] Tryz.call55 rfl (N_procKey n_12 [47, 112] (by omega) (show List.length ([47, 112] : Str) ≤ 2 by decide) (by omega)) rfl (fun _ _ => trivial)) ?_
  rintro _ _ ⟨_, ⟨u_24, e_22, f_25, rfl, rfl⟩, rfl⟩
  refine jA (jD (v := iv parent) rfl) ?_
  refine jI rfl (jR [0, 0, 0, 0] Tryz.call54 rfl (N_setNum p x_20 m_21 k_19 (by omega) (by omega) u_24 parent (by omega) (by omega)) rfl (fun _ _ => trivial)) ?_
  rintro _ _ ⟨_, ⟨x_28, m_29, e_26, k_27, rfl, rfl⟩, rfl⟩
  refine jE <| jB <| jC <| jF <| jA (jD (v := iv n_12) rfl) <| jA (jG (v := iv n_12) rfl) <| jA (jG (v := iv 0) rfl) <| jE <| jB <| jK ?_
  refine Done.two (.inl rfl) rfl (jJ (v := iv n_12) rfl) (jJ (v := iv 0) rfl) (List.Sublist.refl _) ?_
  exact ⟨x_28, m_29, n_12, 0, (by simp only [MS.spawn, e_1, h_7, e_8, e_14, e_18, e_22, e_26, SB]; (repeat (first | rw [if_pos (by omega)] | rw [if_neg (by omega)])); all_goals (first | rfl | simp only [SB, e_1, h_7, e_8, e_14, e_18, e_22, e_26])), (k_27.mono (by omega) (by omega)), (by first | omega | (simp only [LE]; omega)), (by first | omega | (simp only [LE]; omega)), rfl, rfl⟩

theorem M_spawn (x : MA) (m : MS) {S T : Nat} (hk : m.ok S T) (hS : S ≤ 300000000) (hT : T ≤ 300000000) (parent : Int) (hparent : -9223372036854775808 ≤ parent ∧ parent ≤ 9223372036854775807) :
    Ct Tryz.prog 28 [mv x m, .int .i64 parent] (mr x m) (fun _ => True) (fun v A' => ∃ x' m' r0 r1, MS.spawn m parent = (m', r0, r1) ∧ m'.ok (S + 3) (T + 4) ∧ (0 ≤ r0 ∧ r0 ≤ 999) ∧ (0 ≤ r1 ∧ r1 ≤ 9) ∧ v = .tuple #[mv x' m', .int .i64 r0, .int .i64 r1] ∧ A' = mr x' m') := by
  refine Ct.intro Tryz.func28 rfl Tryz.ntmps28 (lb rfl) fun w0 hpre => ?_
  refine jC <| jF ?_
  refine jI rfl (jp (cs := (mc x m)) rfl rfl) ?_
  rintro _ _ ⟨b_1, rfl, rfl⟩
  refine jI rfl (JO.alloc (z := zM) (cs := zC) Tryz.zeroValue52 rfl) ?_
  rintro _ _ ⟨b_2, rfl, rfl⟩
  refine jA (jG (v := iv 0) rfl) <| jA (jG (v := iv 0) rfl) <| jE <| jB <| jC <| jF <| jP (LO.ldM 1 x m rfl rfl) ?_
  refine jI rfl (jR [2, 2, 2] Tryz.call48 rfl (N_sNumAt x m hk (by omega) (by omega) [99, 47, 112, 114, 111, 99]) rfl (fun _ _ => trivial)) ?_
  rintro _ _ ⟨_, ⟨x_5, m_6, n_7, e_3, k_4, f_8, rfl, rfl⟩, rfl⟩
  refine jA (jD (v := .tuple #[mv x_5 m_6, iv n_7]) rfl) <| jA (PO.extract (v := mv x_5 m_6) rfl rfl) <| jA (PO.extract (v := iv n_7) rfl rfl) ?_
  refine jI rfl (JO.stM 4 x_5 m_6 rfl rfl rfl rfl) ?_
  rintro _ _ rfl
  refine jA (jG (v := iv n_7) rfl) <| jE <| jB <| jC <| jC <| jF <| jA (jD (v := iv n_7) rfl) <| jA (PO.geq rfl rfl) <| jE <| jB ?_
  by_cases h_9 : 12 ≤ n_7
  · refine jQ (cB (dT h_9)) <| jC <| jF <| jP (LO.ldM 4 x_5 m_6 rfl rfl) ?_
    refine jI rfl (JO.stM 3 x_5 m_6 rfl rfl rfl rfl) ?_
    rintro _ _ rfl
    refine jA (jG (v := iv 0) rfl) <| jA (jG (v := iv 3) rfl) <| jE <| jB <| jK <| jO <| Done.three (.inl rfl) rfl (RV.cell1 (LO.ldM 3 x_5 m_6 rfl rfl) ⟨_, rfl⟩) (jJ (v := iv 0) rfl) (jJ (v := iv 3) rfl) (tS 3 _) ?_
    exact ⟨x_5, m_6, 0, 3, (by simp only [MS.spawn, e_3, h_9, SB]; (repeat (first | rw [if_pos (by omega)] | rw [if_neg (by omega)])); all_goals (first | rfl | simp only [SB, e_3, h_9])), (k_4.mono (by omega) (by omega)), (by first | omega | (simp only [LE]; omega)), (by first | omega | (simp only [LE]; omega)), rfl, rfl⟩
  refine jL (cB (dF h_9)) <| jM <| jB <| jC <| jF <| jP (LO.ldM 4 x_5 m_6 rfl rfl) ?_
  refine jI rfl (jR [0, 0, 0] Tryz.call49 rfl (N_sBump x_5 m_6 k_4 (by omega) (by omega) [99, 47, 112, 114, 111, 99] (by decide)) rfl (fun _ _ => trivial)) ?_
  rintro _ _ ⟨_, ⟨x_12, m_13, n_14, e_10, k_11, f_15, rfl, rfl⟩, rfl⟩
  refine jA (jD (v := .tuple #[mv x_12 m_13, iv n_14]) rfl) <| jA (PO.extract (v := mv x_12 m_13) rfl rfl) <| jA (PO.extract (v := iv n_14) rfl rfl) ?_
  refine jI rfl (JO.stM 4 x_12 m_13 rfl rfl rfl rfl) ?_
  rintro _ _ rfl
  refine jA (jG (v := iv n_14) rfl) <| jE <| jB <| jC <| jv [mb b_1 x_12 m_13] 3 mixed (by simp) <| jw 0 rfl (LO.ldM 0 x_12 m_13 rfl rfl) <| jW 1 rfl (jD (v := iv n_14) rfl) <| jx (i := 2) ?_
  refine jz rfl rfl (jR [] Tryz.call51 rfl (N_l09Key n_14 [47, 115] (by omega) (show List.length ([47, 115] : Str) ≤ 2 by decide) (by omega)) rfl (fun _ _ => trivial)) ?_
  rintro _ _ ⟨_, ⟨u_22, e_20, f_23, rfl, rfl⟩, rfl⟩
  refine ⟨(by simp), ?_⟩
  refine jx (i := 3) ?_
  refine JX.lt rfl (jR [0, 0, 0] Tryz.call50 rfl (N_sSetNum x_12 m_13 k_11 (by omega) (by omega) u_22 1 (by omega) (by omega)) rfl (fun _ _ => trivial)) ?_
  rintro _ _ ⟨_, ⟨x_30, m_31, e_28, k_29, rfl, rfl⟩, rfl⟩
  refine jx (i := 4) ?_
  refine JX.ls rfl (JO.stM 4 x_30 m_31 rfl rfl rfl rfl) ?_
  rintro _ _ rfl
  refine jB <| jC <| jv [mb b_1 x_30 m_31] 6 mixed (by simp) <| jw 0 rfl (LO.ldM 0 x_30 m_31 rfl rfl) <| jW 1 rfl (jD (v := iv n_14) rfl) <| jW 3 rfl (jD (v := iv parent) rfl) <| jW 5 rfl (jD (v := iv n_14) rfl) <| jx (i := 2) ?_
  refine jz rfl rfl (jR [] Tryz.call51 rfl (N_l09Key n_14 [47, 112] (by omega) (show List.length ([47, 112] : Str) ≤ 2 by decide) (by omega)) rfl (fun _ _ => trivial)) ?_
  rintro _ _ ⟨_, ⟨u_46, e_44, f_47, rfl, rfl⟩, rfl⟩
  refine ⟨(by simp), ?_⟩
  refine jx (i := 4) ?_
  refine jz rfl rfl (jR [0, 0, 0] Tryz.call50 rfl (N_sSetNum x_30 m_31 k_29 (by omega) (by omega) u_46 parent (by omega) (by omega)) rfl (fun _ _ => trivial)) ?_
  rintro _ _ ⟨_, ⟨x_54, m_55, e_52, k_53, rfl, rfl⟩, rfl⟩
  refine ⟨(by simp), ?_⟩
  refine jx (i := 6) ?_
  refine JX.lt rfl (JO.stM 3 x_54 m_55 rfl rfl rfl rfl) ?_
  rintro _ _ rfl
  refine jW 7 rfl (jG (v := iv n_14) rfl) <| jW 8 rfl (jG (v := iv 0) rfl) <| kB (by kernel_rfl) <| jB <| jK <| Done.three (.inl rfl) rfl (RV.cell1 (LO.ldM 3 x_54 m_55 rfl rfl) ⟨_, rfl⟩) (jJ (v := iv n_14) rfl) (jJ (v := iv 0) rfl) (tS 3 _) ?_
  exact ⟨x_54, m_55, n_14, 0, (by simp only [MS.spawn, e_3, h_9, e_10, e_20, e_28, e_44, e_52, SB]; (repeat (first | rw [if_pos (by omega)] | rw [if_neg (by omega)])); all_goals (first | rfl | simp only [SB, e_3, h_9, e_10, e_20, e_28, e_44, e_52])), (k_53.mono (by omega) (by omega)), (by first | omega | (simp only [LE]; omega)), (by first | omega | (simp only [LE]; omega)), rfl, rfl⟩

end Go.Proofs.YtkmpmjficoohkaaGreatDoor

set_option linter.unusedSimpArgs false
set_option linter.unusedVariables false
set_option linter.unnecessarySimpa false
namespace Go.Proofs.YtkmpmjficoohkaaGreatDoor
open Go Go.RowKit
/-- The store at the beginning: one process. -/
def boot : List Cell := (MS.spawn ⟨[], [], []⟩ 0).1.s
theorem boot_eq {m : MS} {a b : Int} (e : MS.spawn ⟨[], [], []⟩ 0 = (m, a, b)) : boot = m.s := by rw [boot, e]
theorem ok0 (n : Nat) : (⟨[], [], []⟩ : MS).ok n n := ⟨Nat.zero_le _, Nat.zero_le _, Nat.zero_le _, fun _ h => by cases h⟩
def DD.new (s : List Cell) : DD := ⟨[⟨0, s, true⟩, ⟨0, [], false⟩], [], 0⟩
def KD.new : KD := ⟨boot, [], DD.new boot, 0, 1, 0, [], [], true⟩
theorem KD.new_lim (h : boot.length ≤ 3) : KD.new.lim 1000000000 := by
  have hb : boot.length ≤ 1000000000 := by omega
  refine ⟨hb, Nat.zero_le _, (fun _ hh => by first | cases hh | exact absurd hh (by simp [KD.new])), ⟨by show 2 ≤ 1000000000; omega, fun s hs => ?_⟩, Nat.zero_le _, (fun _ hh => by first | cases hh | exact absurd hh (by simp [KD.new])), Nat.zero_le _⟩
  simp only [KD.new, DD.new, List.mem_cons, List.not_mem_nil, or_false] at hs
  rcases hs with rfl | rfl
  · exact ⟨hb⟩
  · exact ⟨Nat.zero_le _⟩
theorem KD.new_cnt (h : boot.length ≤ 3) : KD.new.cnt ≤ 100 := by
  simp only [KD.cnt, KD.new, DD.new, cntV, cntOd, List.length_nil]
  omega
end Go.Proofs.YtkmpmjficoohkaaGreatDoor
