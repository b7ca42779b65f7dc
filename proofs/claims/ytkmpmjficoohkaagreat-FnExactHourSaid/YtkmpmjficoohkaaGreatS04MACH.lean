/-
  The laws' own measures, copies and comparisons (part 4): access sets and machines.
-/
import Derived.Test.YtkmpmjficoohkaaGreatS03EQ
set_option linter.unusedSimpArgs false
set_option linter.unusedVariables false
set_option linter.unnecessarySimpa false
namespace Go.Proofs.YtkmpmjficoohkaaGreat
open Go Go.RowKit
attribute [local irreducible] JL JC JQ JO LO PO JA JX Ct

theorem szStrs_le : ∀ (s : List Str) (l : Int), 0 ≤ l → szStrs s l ≤ l ∧ -1 ≤ szStrs s l
  | [], l, h => by simp only [szStrs]; omega
  | c :: s, l, h => by
    unfold szStrs
    split
    · omega
    · have := szStrs_le s (l - c.length) (by omega); omega
theorem szStringS_le (s : List Str) (l : Int) (h : 0 ≤ l) : szStringS s l ≤ l ∧ -1 ≤ szStringS s l := by
  unfold szStringS
  split
  · omega
  · have := szStrs_le s (l - s.length) (by omega); omega
theorem szCells_le : ∀ (s : List Cell) (l : Int), 0 ≤ l → szCells s l ≤ l ∧ -1 ≤ szCells s l
  | [], l, h => by simp only [szCells]; omega
  | c :: s, l, h => by
    have hc := szCell_le c.1 c.2 l h
    unfold szCells
    split
    · omega
    · have := szCells_le s (szCell c.1 c.2 l) (by omega); omega
theorem szCellS_le (s : List Cell) (l : Int) (h : 0 ≤ l) : szCellS s l ≤ l ∧ -1 ≤ szCellS s l := by
  unfold szCellS
  split
  · omega
  · have := szCells_le s (l - s.length) (by omega); omega
def szTouch (r w : List Str) (l : Int) : Int := if szStringS r l < 0 then -1 else if szStringS w (szStringS r l) < 0 then -1 else szStringS w (szStringS r l)
theorem szTouch_le (r w : List Str) (l : Int) (h : 0 ≤ l) : szTouch r w l ≤ l ∧ -1 ≤ szTouch r w l := by
  have h1 := szStringS_le r l h
  unfold szTouch
  split
  · omega
  · have h2 := szStringS_le w (szStringS r l) (by omega)
    split <;> omega
def szMach (m : MS) (l : Int) : Int := if szCellS m.s l < 0 then -1 else if szTouch m.r m.w (szCellS m.s l) < 0 then -1 else szTouch m.r m.w (szCellS m.s l)
/-- The strings of a list are short enough to be counted. -/
def okS (s : List Str) : Prop := s.length ≤ 9223372036854775807 ∧ ∀ j, j < s.length → (s.getD j []).length ≤ 9223372036854775807
def okC (s : List Cell) : Prop := s.length ≤ 9223372036854775807 ∧ ∀ j, j < s.length → (s.getD j c0).1.length ≤ 9223372036854775807 ∧ (s.getD j c0).2.length ≤ 9223372036854775807

theorem C_szTouch (a1 a2 : Option Addr) (c1 c2 : Nat) (r w : List Str) (l : Int) (h0 : 0 ≤ l) (h1 : l ≤ 1048576) (hok_r : okS r) (hok_w : okS w) :
    Ct Tryz.prog 56 [.agg #[.slice a1 r.length c1, .slice a2 w.length c2], .int .i64 l] [] (fun w_ => Sees w_ (.slice a1 r.length c1) 1 r.length (r.map str) ∧ Sees w_ (.slice a2 w.length c2) 1 w.length (w.map str)) (fun v A' => v = .int .i64 (szTouch r w l) ∧ A' = []) := by
  refine Ct.intro Tryz.func56 rfl Tryz.ntmps56 (Nat.le_of_ble_eq_true rfl) fun w0 hpre => ?_
  have hs_a1 : Sees w0 _ _ _ _ := hpre.1
  have hs_a2 : Sees w0 _ _ _ _ := hpre.2
  refine JC.seq ?_
  refine JC.region ?_
  refine JL.op rfl (JO.box (cs := [.slice a1 r.length c1, .slice a2 w.length c2]) rfl rfl) ?_
  rintro _ _ ⟨b_1, rfl, rfl⟩
  refine JL.pure rfl (PO.assign (v := .int .i64 0) rfl) ?_
  refine JL.nil ?_
  refine JQ.seq ?_
  refine JC.seq ?_
  refine JC.region ?_
  refine JL.pure rfl (PO.fieldAddr fo51_0 rfl) ?_
  refine JL.ld rfl (LO.load1 0 (v := .slice a1 r.length c1) rfl rfl Tryz.isAgg30 rfl) ?_
  refine JL.pure rfl (PO.move (v := .int .i64 l) rfl) ?_
  refine JL.op rfl (JO.call [] Tryz.call31 rfl (C_szStringS a1 c1 r l (by omega) (by omega) (hok_r).1 (hok_r).2) rfl (fun w hw => hw.seeOut_ hs_a1 (fun _ _ => List.not_mem_nil))) ?_
  rintro _ _ ⟨_, ⟨rfl, rfl⟩, rfl⟩
  have hle1 := szStringS_le r l (by omega)
  refine JL.pure rfl (PO.assign (v := .int .i64 (szStringS r l)) rfl) ?_
  refine JL.nil ?_
  refine JQ.seq ?_
  refine JC.seq ?_
  refine JC.seq ?_
  refine JC.region ?_
  refine JL.pure rfl (PO.move (v := .int .i64 (szStringS r l)) rfl) ?_
  refine JL.pure rfl (PO.lss rfl rfl) ?_
  refine JL.nil ?_
  refine JQ.seq ?_
  by_cases h_2 : (szStringS r l) < 0
  · skip
    refine JC.condT (congrArg Value.bool (decide_eq_true h_2)) ?_
    refine JC.seq ?_
    refine JC.region ?_
    refine JL.pure rfl (PO.assign (v := .int .i64 (-1)) rfl) ?_
    refine JL.nil ?_
    refine JQ.seq ?_
    refine JC.ret ?_
    refine JQ.thenRet ?_
    refine Done.one (.inl rfl) rfl (RV.tmp (v := .int .i64 (-1)) rfl) (List.nil_sublist _) ?_
    refine ⟨?_, rfl⟩
    simp only [szTouch]
    congr 1
    first | rw [if_pos (by omega)] | (rw [if_neg (by omega)]; first | rw [if_pos (by omega)] | rw [if_neg (by omega)])
  · skip
    refine JC.condF (congrArg Value.bool (decide_eq_false h_2)) ?_
    refine JC.skip ?_
    refine JQ.seq ?_
    refine JC.seq ?_
    refine JC.region ?_
    refine JL.pure rfl (PO.fieldAddr fo51_1 rfl) ?_
    refine JL.ld rfl (LO.load1 0 (v := .slice a2 w.length c2) rfl rfl Tryz.isAgg30 rfl) ?_
    refine JL.pure rfl (PO.move (v := .int .i64 (szStringS r l)) rfl) ?_
    refine JL.op rfl (JO.call [] Tryz.call31 rfl (C_szStringS a2 c2 w (szStringS r l) (by omega) (by omega) (hok_w).1 (hok_w).2) rfl (fun w hw => hw.seeOut_ hs_a2 (fun _ _ => List.not_mem_nil))) ?_
    rintro _ _ ⟨_, ⟨rfl, rfl⟩, rfl⟩
    have hle2 := szStringS_le w (szStringS r l) (by omega)
    refine JL.pure rfl (PO.assign (v := .int .i64 (szStringS w (szStringS r l))) rfl) ?_
    refine JL.nil ?_
    refine JQ.seq ?_
    refine JC.seq ?_
    refine JC.seq ?_
    refine JC.region ?_
    refine JL.pure rfl (PO.move (v := .int .i64 (szStringS w (szStringS r l))) rfl) ?_
    refine JL.pure rfl (PO.lss rfl rfl) ?_
    refine JL.nil ?_
    refine JQ.seq ?_
    by_cases h_3 : (szStringS w (szStringS r l)) < 0
    · skip
      refine JC.condT (congrArg Value.bool (decide_eq_true h_3)) ?_
      refine JC.seq ?_
      refine JC.region ?_
      refine JL.pure rfl (PO.assign (v := .int .i64 (-1)) rfl) ?_
      refine JL.nil ?_
      refine JQ.seq ?_
      refine JC.ret ?_
      refine JQ.thenRet ?_
      refine Done.one (.inl rfl) rfl (RV.tmp (v := .int .i64 (-1)) rfl) (List.nil_sublist _) ?_
      refine ⟨?_, rfl⟩
      simp only [szTouch]
      congr 1
      first | rw [if_pos (by omega)] | (rw [if_neg (by omega)]; first | rw [if_pos (by omega)] | rw [if_neg (by omega)])
    · skip
      refine JC.condF (congrArg Value.bool (decide_eq_false h_3)) ?_
      refine JC.skip ?_
      refine JQ.seq ?_
      refine JC.seq ?_
      refine JC.region ?_
      refine JL.pure rfl (PO.move (v := .int .i64 (szStringS w (szStringS r l))) rfl) ?_
      refine JL.pure rfl (PO.assign (v := .int .i64 (szStringS w (szStringS r l))) rfl) ?_
      refine JL.nil ?_
      refine JQ.seq ?_
      refine JC.ret ?_
      refine Done.one (.inl rfl) rfl (RV.tmp (v := .int .i64 (szStringS w (szStringS r l))) rfl) (List.nil_sublist _) ?_
      refine ⟨?_, rfl⟩
      simp only [szTouch]
      congr 1
      first | rw [if_pos (by omega)] | (rw [if_neg (by omega)]; first | rw [if_pos (by omega)] | rw [if_neg (by omega)])


theorem C_toTouch (a1 a2 : Option Addr) (c1 c2 : Nat) (r w : List Str) (hr : r.length ≤ 1048576) (hw_ : w.length ≤ 1048576) :
    Ct Tryz.prog 62 [.agg #[.slice a1 r.length c1, .slice a2 w.length c2]] [] (fun w_ => Sees w_ (.slice a1 r.length c1) 1 r.length (r.map str) ∧ Sees w_ (.slice a2 w.length c2) 1 w.length (w.map str)) (fun v A' => ∃ b1 d1 b2 d2, v = .agg #[.slice b1 r.length d1, .slice b2 w.length d2] ∧ A' = [.row (.slice b1 r.length d1) 9 1 r.length (r.map str), .row (.slice b2 w.length d2) 9 1 w.length (w.map str)]) := by
  refine Ct.intro Tryz.func62 rfl Tryz.ntmps62 (Nat.le_of_ble_eq_true rfl) fun w0 hpre => ?_
  have hs_a1 : Sees w0 _ _ _ _ := hpre.1
  have hs_a2 : Sees w0 _ _ _ _ := hpre.2
  refine JC.seq ?_
  refine JC.region ?_
  refine JL.op rfl (JO.box (cs := [.slice a1 r.length c1, .slice a2 w.length c2]) rfl rfl) ?_
  rintro _ _ ⟨b_1, rfl, rfl⟩
  refine JL.op rfl (JO.alloc (z := .agg #[.slice none 0 0, .slice none 0 0]) (cs := [.slice none 0 0, .slice none 0 0]) Tryz.zeroValue59 rfl) ?_
  rintro _ _ ⟨b_2, rfl, rfl⟩
  refine JL.nil ?_
  refine JQ.seq ?_
  refine JC.seq ?_
  refine JC.region ?_
  refine JL.op rfl (JO.alloc (z := .agg #[.slice none 0 0, .slice none 0 0]) (cs := [.slice none 0 0, .slice none 0 0]) Tryz.zeroValue59 rfl) ?_
  rintro _ _ ⟨b_3, rfl, rfl⟩
  refine JL.nil ?_
  refine JQ.seq ?_
  refine JC.seq ?_
  refine JC.region ?_
  refine JL.pure rfl (PO.fieldAddr fo51_0 rfl) ?_
  refine JL.ld rfl (LO.load1 2 (v := .slice a1 r.length c1) rfl rfl Tryz.isAgg30 rfl) ?_
  refine JL.op rfl (JO.call [] Tryz.call37 rfl (C_toStringS a1 c1 r (by omega)) rfl (fun w hw => hw.seeOut_ hs_a1 (fun _ _ => List.not_mem_nil))) ?_
  rintro _ _ ⟨_, ⟨a_4, c_5, rfl, rfl⟩, rfl⟩
  refine JL.pure rfl (PO.fieldAddr fo59_0 rfl) ?_
  refine JL.op rfl (JO.store 1 (vs := [.slice a_4 r.length c_5]) (cs' := [.slice a_4 r.length c_5, .slice none 0 0]) rfl rfl rfl rfl Tryz.sizeOf30 rfl rfl (Nat.le_of_ble_eq_true rfl) rfl) ?_
  rintro _ _ rfl
  refine JL.nil ?_
  refine JQ.seq ?_
  refine JC.seq ?_
  refine JC.region ?_
  refine JL.pure rfl (PO.fieldAddr fo51_1 rfl) ?_
  refine JL.ld rfl (LO.load1 3 (v := .slice a2 w.length c2) rfl rfl Tryz.isAgg30 rfl) ?_
  refine JL.op rfl (JO.call [] Tryz.call37 rfl (C_toStringS a2 c2 w (by omega)) rfl (fun w hw => hw.seeOut_ hs_a2 (fun _ _ => List.not_mem_nil))) ?_
  rintro _ _ ⟨_, ⟨a_6, c_7, rfl, rfl⟩, rfl⟩
  refine JL.pure rfl (PO.fieldAddr fo59_1 rfl) ?_
  refine JL.op rfl (JO.store 2 (vs := [.slice a_6 w.length c_7]) (cs' := [.slice a_4 r.length c_5, .slice a_6 w.length c_7]) rfl rfl rfl rfl Tryz.sizeOf30 rfl rfl (Nat.le_of_ble_eq_true rfl) rfl) ?_
  rintro _ _ rfl
  refine JL.nil ?_
  refine JQ.seq ?_
  refine JC.seq ?_
  refine JC.region ?_
  refine JL.ld rfl (LO.loadK 2 (vs := [.slice a_4 r.length c_5, .slice a_6 w.length c_7]) rfl rfl Tryz.isAgg59 Tryz.sizeOf59 rfl rfl) ?_
  refine JL.op rfl (JO.store 3 (vs := [.slice a_4 r.length c_5, .slice a_6 w.length c_7]) (cs' := [.slice a_4 r.length c_5, .slice a_6 w.length c_7]) rfl rfl rfl rfl Tryz.sizeOf59 rfl rfl (Nat.le_of_ble_eq_true rfl) rfl) ?_
  rintro _ _ rfl
  refine JL.nil ?_
  refine JQ.seq ?_
  refine JC.ret ?_
  refine JQ.perm (pick_perm [1, 0] (A := [Res.row (.slice a_4 r.length c_5) 9 1 r.length (r.map str), Res.row (.slice a_6 w.length c_7) 9 1 w.length (w.map str)]) (F := [bk b_3 59 [.slice a_4 r.length c_5, .slice a_6 w.length c_7], bk b_2 59 [.slice a_4 r.length c_5, .slice a_6 w.length c_7], bk b_1 51 [.slice a1 r.length c1, .slice a2 w.length c2]]) rfl).symm ?_
  refine Done.one (.inl rfl) rfl (RV.cell1 (LO.loadK 3 (vs := [.slice a_4 r.length c_5, .slice a_6 w.length c_7]) rfl rfl Tryz.isAgg59 Tryz.sizeOf59 rfl rfl) ⟨_, rfl⟩) (List.sublist_append_left [Res.row (.slice a_4 r.length c_5) 9 1 r.length (r.map str), Res.row (.slice a_6 w.length c_7) 9 1 w.length (w.map str)] [bk b_3 59 [.slice a_4 r.length c_5, .slice a_6 w.length c_7], bk b_2 59 [.slice a_4 r.length c_5, .slice a_6 w.length c_7], bk b_1 51 [.slice a1 r.length c1, .slice a2 w.length c2]]) ?_
  exact ⟨_, _, _, _, rfl, rfl⟩


end Go.Proofs.YtkmpmjficoohkaaGreat
