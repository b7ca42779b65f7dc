/-
  Texts of the walk, joined: what each one proves stands at its theorems.
-/
import Derived.Test.YtenfajgpdhgknaaGreatDoorS03EQ
import Derived.Laws.IdiomStrings
import Derived.Lib.AppendZerosOnto
import Derived.Lib.Overlaps
import Derived.Laws.Cover3
import Derived.WideLaws
import Derived.Deep.SlicePairs
import Derived.ProofKit
import Derived.Deep.Slices
import Derived.Deep.DeepHandedRow
import Derived.Test.YtenfajgpdhgknaaGreatDoorRows
import Derived.WalkKit
import Derived.OpenShut
set_option linter.unusedSimpArgs false
set_option linter.unusedVariables false
set_option linter.unnecessarySimpa false
namespace Go.Proofs.YtenfajgpdhgknaaGreatDoor
open Go Go.RowKit
attribute [local irreducible] JL JC JQ JO LO PO JA JX Ct

theorem szStrs_le : ∀ (s : List Str) (l : Int), 0 ≤ l → szStrs s l ≤ l ∧ -1 ≤ szStrs s l
  | [], l, h => by simp only [szStrs]; omega
  | c :: s, l, h => by
    unfold szStrs
    split
    · omega
    · have := szStrs_le s (l - c.length) (by omega); omega
theorem szStringS_le (s : List Str) (l : Int) (h : 0 ≤ l) : szStringS s l ≤ l ∧ -1 ≤ szStringS s l := by
  unfold szStringS
  split
  · omega
  · have := szStrs_le s (l - s.length) (by omega); omega
theorem szCells_le : ∀ (s : List Cell) (l : Int), 0 ≤ l → szCells s l ≤ l ∧ -1 ≤ szCells s l
  | [], l, h => by simp only [szCells]; omega
  | c :: s, l, h => by
    have hc := szCell_le c.1 c.2 l h
    unfold szCells
    split
    · omega
    · have := szCells_le s (szCell c.1 c.2 l) (by omega); omega
theorem szCellS_le (s : List Cell) (l : Int) (h : 0 ≤ l) : szCellS s l ≤ l ∧ -1 ≤ szCellS s l := by
  unfold szCellS
  split
  · omega
  · have := szCells_le s (l - s.length) (by omega); omega
def szTouch (r w : List Str) (l : Int) : Int := if szStringS r l < 0 then -1 else if szStringS w (szStringS r l) < 0 then -1 else szStringS w (szStringS r l)
theorem szTouch_le (r w : List Str) (l : Int) (h : 0 ≤ l) : szTouch r w l ≤ l ∧ -1 ≤ szTouch r w l := by
  have h1 := szStringS_le r l h
  unfold szTouch
  split
  · omega
  · have h2 := szStringS_le w (szStringS r l) (by omega)
    split <;> omega
def szMach (m : MS) (l : Int) : Int := if szCellS m.s l < 0 then -1 else if szTouch m.r m.w (szCellS m.s l) < 0 then -1 else szTouch m.r m.w (szCellS m.s l)
/-- The strings of a list are short enough to be counted. -/
def okS (s : List Str) : Prop := s.length ≤ 9223372036854775807 ∧ ∀ j, j < s.length → (s.getD j []).length ≤ 9223372036854775807
def okC (s : List Cell) : Prop := s.length ≤ 9223372036854775807 ∧ ∀ j, j < s.length → (s.getD j c0).1.length ≤ 9223372036854775807 ∧ (s.getD j c0).2.length ≤ 9223372036854775807

theorem C_szTouch (a1 a2 : Option Addr) (c1 c2 : Nat) (r w : List Str) (l : Int) (h0 : 0 ≤ l) (h1 : l ≤ 1048576) (hok_r : okS r) (hok_w : okS w) :
    Ct Tryz.prog 122 [.agg #[.slice a1 r.length c1, .slice a2 w.length c2], .int .i64 l] [] (fun w_ => Sees w_ (.slice a1 r.length c1) 1 r.length (r.map str) ∧ Sees w_ (.slice a2 w.length c2) 1 w.length (w.map str)) (fun v A' => v = .int .i64 (szTouch r w l) ∧ A' = []) := by
  refine Ct.intro Tryz.func122 rfl Tryz.ntmps122 (Nat.le_of_ble_eq_true rfl) fun w0 hpre => ?_
  have hs_a1 : Sees w0 _ _ _ _ := hpre.1
  have hs_a2 : Sees w0 _ _ _ _ := hpre.2
  refine JC.seq ?_
  refine JC.region ?_
  refine JL.op rfl (JO.box (cs := [.slice a1 r.length c1, .slice a2 w.length c2]) rfl rfl) ?_
  rintro _ _ ⟨b_1, rfl, rfl⟩
  refine JL.pure rfl (PO.assign (v := .int .i64 0) rfl) ?_
  refine JL.nil ?_
  refine JQ.seq ?_
  refine JC.seq ?_
  refine JC.region ?_
  refine JL.pure rfl (PO.fieldAddr fo25_0 rfl) ?_
  refine JL.ld rfl (LO.load1 0 (v := .slice a1 r.length c1) rfl rfl Tryz.isAgg23 rfl) ?_
  refine JL.pure rfl (PO.move (v := .int .i64 l) rfl) ?_
  refine JL.op rfl (JO.call [] Tryz.call227 rfl (C_szStringS a1 c1 r l (by omega) (by omega) (hok_r).1 (hok_r).2) rfl (fun w hw => hw.seeOut_ hs_a1 (fun _ _ => List.not_mem_nil))) ?_
  rintro _ _ ⟨_, ⟨rfl, rfl⟩, rfl⟩
  have hle1 := szStringS_le r l (by omega)
  refine JL.pure rfl (PO.assign (v := .int .i64 (szStringS r l)) rfl) ?_
  refine JL.nil ?_
  refine JQ.seq ?_
  refine JC.seq ?_
  refine JC.seq ?_
  refine JC.region ?_
  refine JL.pure rfl (PO.move (v := .int .i64 (szStringS r l)) rfl) ?_
  refine JL.pure rfl (PO.lss rfl rfl) ?_
  refine JL.nil ?_
  refine JQ.seq ?_
  by_cases h_2 : (szStringS r l) < 0
  · skip
    refine JC.condT (congrArg Value.bool (decide_eq_true h_2)) ?_
    refine JC.seq ?_
    refine JC.region ?_
    refine JL.pure rfl (PO.assign (v := .int .i64 (-1)) rfl) ?_
    refine JL.nil ?_
    refine JQ.seq ?_
    refine JC.ret ?_
    refine JQ.thenRet ?_
    refine Done.one (.inl rfl) rfl (RV.tmp (v := .int .i64 (-1)) rfl) (List.nil_sublist _) ?_
    refine ⟨?_, rfl⟩
    simp only [szTouch]
    congr 1
    first | rw [if_pos (by omega)] | (rw [if_neg (by omega)]; first | rw [if_pos (by omega)] | rw [if_neg (by omega)])
  · skip
    refine JC.condF (congrArg Value.bool (decide_eq_false h_2)) ?_
    refine JC.skip ?_
    refine JQ.seq ?_
    refine JC.seq ?_
    refine JC.region ?_
    refine JL.pure rfl (PO.fieldAddr fo25_1 rfl) ?_
    refine JL.ld rfl (LO.load1 0 (v := .slice a2 w.length c2) rfl rfl Tryz.isAgg23 rfl) ?_
    refine JL.pure rfl (PO.move (v := .int .i64 (szStringS r l)) rfl) ?_
    refine JL.op rfl (JO.call [] Tryz.call227 rfl (C_szStringS a2 c2 w (szStringS r l) (by omega) (by omega) (hok_w).1 (hok_w).2) rfl (fun w hw => hw.seeOut_ hs_a2 (fun _ _ => List.not_mem_nil))) ?_
    rintro _ _ ⟨_, ⟨rfl, rfl⟩, rfl⟩
    have hle2 := szStringS_le w (szStringS r l) (by omega)
    refine JL.pure rfl (PO.assign (v := .int .i64 (szStringS w (szStringS r l))) rfl) ?_
    refine JL.nil ?_
    refine JQ.seq ?_
    refine JC.seq ?_
    refine JC.seq ?_
    refine JC.region ?_
    refine JL.pure rfl (PO.move (v := .int .i64 (szStringS w (szStringS r l))) rfl) ?_
    refine JL.pure rfl (PO.lss rfl rfl) ?_
    refine JL.nil ?_
    refine JQ.seq ?_
    by_cases h_3 : (szStringS w (szStringS r l)) < 0
    · skip
      refine JC.condT (congrArg Value.bool (decide_eq_true h_3)) ?_
      refine JC.seq ?_
      refine JC.region ?_
      refine JL.pure rfl (PO.assign (v := .int .i64 (-1)) rfl) ?_
      refine JL.nil ?_
      refine JQ.seq ?_
      refine JC.ret ?_
      refine JQ.thenRet ?_
      refine Done.one (.inl rfl) rfl (RV.tmp (v := .int .i64 (-1)) rfl) (List.nil_sublist _) ?_
      refine ⟨?_, rfl⟩
      simp only [szTouch]
      congr 1
      first | rw [if_pos (by omega)] | (rw [if_neg (by omega)]; first | rw [if_pos (by omega)] | rw [if_neg (by omega)])
    · skip
      refine JC.condF (congrArg Value.bool (decide_eq_false h_3)) ?_
      refine JC.skip ?_
      refine JQ.seq ?_
      refine JC.seq ?_
      refine JC.region ?_
      refine JL.pure rfl (PO.move (v := .int .i64 (szStringS w (szStringS r l))) rfl) ?_
      refine JL.pure rfl (PO.assign (v := .int .i64 (szStringS w (szStringS r l))) rfl) ?_
      refine JL.nil ?_
      refine JQ.seq ?_
      refine JC.ret ?_
      refine Done.one (.inl rfl) rfl (RV.tmp (v := .int .i64 (szStringS w (szStringS r l))) rfl) (List.nil_sublist _) ?_
      refine ⟨?_, rfl⟩
      simp only [szTouch]
      congr 1
      first | rw [if_pos (by omega)] | (rw [if_neg (by omega)]; first | rw [if_pos (by omega)] | rw [if_neg (by omega)])

theorem C_szMach (a1 a2 a3 : Option Addr) (c1 c2 c3 : Nat) (m : MS) (l : Int) (h0 : 0 ≤ l) (h1 : l ≤ 1048576) (hok_s : okC m.s) (hok_r : okS m.r) (hok_w : okS m.w) :
    Ct Tryz.prog 15 [.agg #[.slice a1 m.s.length c1, .slice a2 m.r.length c2, .slice a3 m.w.length c3], .int .i64 l] [] (fun w_ => Sees w_ (.slice a1 m.s.length c1) 2 m.s.length (m.s.flatMap encC) ∧ Sees w_ (.slice a2 m.r.length c2) 1 m.r.length (m.r.map str) ∧ Sees w_ (.slice a3 m.w.length c3) 1 m.w.length (m.w.map str)) (fun v A' => v = .int .i64 (szMach m l) ∧ A' = []) := by
  refine Ct.intro Tryz.func15 rfl Tryz.ntmps15 (Nat.le_of_ble_eq_true rfl) fun w0 hpre => ?_
  have hs_a1 : Sees w0 _ _ _ _ := hpre.1
  have hs_a2 : Sees w0 _ _ _ _ := hpre.2.1
  have hs_a3 : Sees w0 _ _ _ _ := hpre.2.2
  refine JC.seq ?_
  refine JC.region ?_
  refine JL.op rfl (JO.box (cs := [.slice a1 m.s.length c1, .slice a2 m.r.length c2, .slice a3 m.w.length c3]) rfl rfl) ?_
  rintro _ _ ⟨b_1, rfl, rfl⟩
  refine JL.pure rfl (PO.assign (v := .int .i64 0) rfl) ?_
  refine JL.nil ?_
  refine JQ.seq ?_
  refine JC.seq ?_
  refine JC.region ?_
  refine JL.pure rfl (PO.fieldAddr fo27_0 rfl) ?_
  refine JL.ld rfl (LO.load1 0 (v := .slice a1 m.s.length c1) rfl rfl Tryz.isAgg22 rfl) ?_
  refine JL.pure rfl (PO.move (v := .int .i64 l) rfl) ?_
  refine JL.op rfl (JO.call [] Tryz.call121 rfl (C_szCellS a1 c1 m.s l (by omega) (by omega) (hok_s).1 (hok_s).2) rfl (fun w hw => hw.seeOut_ hs_a1 (fun _ _ => List.not_mem_nil))) ?_
  rintro _ _ ⟨_, ⟨rfl, rfl⟩, rfl⟩
  have hle1 := szCellS_le m.s l (by omega)
  refine JL.pure rfl (PO.assign (v := .int .i64 (szCellS m.s l)) rfl) ?_
  refine JL.nil ?_
  refine JQ.seq ?_
  refine JC.seq ?_
  refine JC.seq ?_
  refine JC.region ?_
  refine JL.pure rfl (PO.move (v := .int .i64 (szCellS m.s l)) rfl) ?_
  refine JL.pure rfl (PO.lss rfl rfl) ?_
  refine JL.nil ?_
  refine JQ.seq ?_
  by_cases h_2 : (szCellS m.s l) < 0
  · skip
    refine JC.condT (congrArg Value.bool (decide_eq_true h_2)) ?_
    refine JC.seq ?_
    refine JC.region ?_
    refine JL.pure rfl (PO.assign (v := .int .i64 (-1)) rfl) ?_
    refine JL.nil ?_
    refine JQ.seq ?_
    refine JC.ret ?_
    refine JQ.thenRet ?_
    refine Done.one (.inl rfl) rfl (RV.tmp (v := .int .i64 (-1)) rfl) (List.nil_sublist _) ?_
    refine ⟨?_, rfl⟩
    simp only [szMach]
    congr 1
    first | rw [if_pos (by omega)] | (rw [if_neg (by omega)]; first | rw [if_pos (by omega)] | rw [if_neg (by omega)])
  · skip
    refine JC.condF (congrArg Value.bool (decide_eq_false h_2)) ?_
    refine JC.skip ?_
    refine JQ.seq ?_
    refine JC.seq ?_
    refine JC.region ?_
    refine JL.pure rfl (PO.fieldAddr fo27_1 rfl) ?_
    refine JL.ld rfl (LO.loadK 0 (vs := [.slice a2 m.r.length c2, .slice a3 m.w.length c3]) rfl rfl Tryz.isAgg25 Tryz.sizeOf25 rfl rfl) ?_
    refine JL.pure rfl (PO.move (v := .int .i64 (szCellS m.s l)) rfl) ?_
    refine JL.op rfl (JO.call [] Tryz.call122 rfl (C_szTouch a2 a3 c2 c3 m.r m.w (szCellS m.s l) (by omega) (by omega) hok_r hok_w) rfl (fun w hw => ⟨hw.seeOut_ hs_a2 (fun _ _ => List.not_mem_nil), hw.seeOut_ hs_a3 (fun _ _ => List.not_mem_nil)⟩)) ?_
    rintro _ _ ⟨_, ⟨rfl, rfl⟩, rfl⟩
    have hle2 := szTouch_le m.r m.w (szCellS m.s l) (by omega)
    refine JL.pure rfl (PO.assign (v := .int .i64 (szTouch m.r m.w (szCellS m.s l))) rfl) ?_
    refine JL.nil ?_
    refine JQ.seq ?_
    refine JC.seq ?_
    refine JC.seq ?_
    refine JC.region ?_
    refine JL.pure rfl (PO.move (v := .int .i64 (szTouch m.r m.w (szCellS m.s l))) rfl) ?_
    refine JL.pure rfl (PO.lss rfl rfl) ?_
    refine JL.nil ?_
    refine JQ.seq ?_
    by_cases h_3 : (szTouch m.r m.w (szCellS m.s l)) < 0
    · skip
      refine JC.condT (congrArg Value.bool (decide_eq_true h_3)) ?_
      refine JC.seq ?_
      refine JC.region ?_
      refine JL.pure rfl (PO.assign (v := .int .i64 (-1)) rfl) ?_
      refine JL.nil ?_
      refine JQ.seq ?_
      refine JC.ret ?_
      refine JQ.thenRet ?_
      refine Done.one (.inl rfl) rfl (RV.tmp (v := .int .i64 (-1)) rfl) (List.nil_sublist _) ?_
      refine ⟨?_, rfl⟩
      simp only [szMach]
      congr 1
      first | rw [if_pos (by omega)] | (rw [if_neg (by omega)]; first | rw [if_pos (by omega)] | rw [if_neg (by omega)])
    · skip
      refine JC.condF (congrArg Value.bool (decide_eq_false h_3)) ?_
      refine JC.skip ?_
      refine JQ.seq ?_
      refine JC.seq ?_
      refine JC.region ?_
      refine JL.pure rfl (PO.move (v := .int .i64 (szTouch m.r m.w (szCellS m.s l))) rfl) ?_
      refine JL.pure rfl (PO.assign (v := .int .i64 (szTouch m.r m.w (szCellS m.s l))) rfl) ?_
      refine JL.nil ?_
      refine JQ.seq ?_
      refine JC.ret ?_
      refine Done.one (.inl rfl) rfl (RV.tmp (v := .int .i64 (szTouch m.r m.w (szCellS m.s l))) rfl) (List.nil_sublist _) ?_
      refine ⟨?_, rfl⟩
      simp only [szMach]
      congr 1
      first | rw [if_pos (by omega)] | (rw [if_neg (by omega)]; first | rw [if_pos (by omega)] | rw [if_neg (by omega)])

theorem C_toTouch (a1 a2 : Option Addr) (c1 c2 : Nat) (r w : List Str) (hr : r.length ≤ 1048576) (hw_ : w.length ≤ 1048576) :
    Ct Tryz.prog 126 [.agg #[.slice a1 r.length c1, .slice a2 w.length c2]] [] (fun w_ => Sees w_ (.slice a1 r.length c1) 1 r.length (r.map str) ∧ Sees w_ (.slice a2 w.length c2) 1 w.length (w.map str)) (fun v A' => ∃ b1 d1 b2 d2, v = .agg #[.slice b1 r.length d1, .slice b2 w.length d2] ∧ A' = [.row (.slice b1 r.length d1) 9 1 r.length (r.map str), .row (.slice b2 w.length d2) 9 1 w.length (w.map str)]) := by
  refine Ct.intro Tryz.func126 rfl Tryz.ntmps126 (Nat.le_of_ble_eq_true rfl) fun w0 hpre => ?_
  have hs_a1 : Sees w0 _ _ _ _ := hpre.1
  have hs_a2 : Sees w0 _ _ _ _ := hpre.2
  refine JC.seq ?_
  refine JC.region ?_
  refine JL.op rfl (JO.box (cs := [.slice a1 r.length c1, .slice a2 w.length c2]) rfl rfl) ?_
  rintro _ _ ⟨b_1, rfl, rfl⟩
  refine JL.op rfl (JO.alloc (z := .agg #[.slice none 0 0, .slice none 0 0]) (cs := [.slice none 0 0, .slice none 0 0]) Tryz.zeroValue30 rfl) ?_
  rintro _ _ ⟨b_2, rfl, rfl⟩
  refine JL.nil ?_
  refine JQ.seq ?_
  refine JC.seq ?_
  refine JC.region ?_
  refine JL.op rfl (JO.alloc (z := .agg #[.slice none 0 0, .slice none 0 0]) (cs := [.slice none 0 0, .slice none 0 0]) Tryz.zeroValue30 rfl) ?_
  rintro _ _ ⟨b_3, rfl, rfl⟩
  refine JL.nil ?_
  refine JQ.seq ?_
  refine JC.seq ?_
  refine JC.region ?_
  refine JL.pure rfl (PO.fieldAddr fo25_0 rfl) ?_
  refine JL.ld rfl (LO.load1 2 (v := .slice a1 r.length c1) rfl rfl Tryz.isAgg23 rfl) ?_
  refine JL.op rfl (JO.call [] Tryz.call236 rfl (C_toStringS a1 c1 r (by omega)) rfl (fun w hw => hw.seeOut_ hs_a1 (fun _ _ => List.not_mem_nil))) ?_
  rintro _ _ ⟨_, ⟨a_4, c_5, rfl, rfl⟩, rfl⟩
  refine JL.pure rfl (PO.fieldAddr fo30_0 rfl) ?_
  refine JL.op rfl (JO.store 1 (vs := [.slice a_4 r.length c_5]) (cs' := [.slice a_4 r.length c_5, .slice none 0 0]) rfl rfl rfl rfl Tryz.sizeOf23 rfl rfl (Nat.le_of_ble_eq_true rfl) rfl) ?_
  rintro _ _ rfl
  refine JL.nil ?_
  refine JQ.seq ?_
  refine JC.seq ?_
  refine JC.region ?_
  refine JL.pure rfl (PO.fieldAddr fo25_1 rfl) ?_
  refine JL.ld rfl (LO.load1 3 (v := .slice a2 w.length c2) rfl rfl Tryz.isAgg23 rfl) ?_
  refine JL.op rfl (JO.call [] Tryz.call236 rfl (C_toStringS a2 c2 w (by omega)) rfl (fun w hw => hw.seeOut_ hs_a2 (fun _ _ => List.not_mem_nil))) ?_
  rintro _ _ ⟨_, ⟨a_6, c_7, rfl, rfl⟩, rfl⟩
  refine JL.pure rfl (PO.fieldAddr fo30_1 rfl) ?_
  refine JL.op rfl (JO.store 2 (vs := [.slice a_6 w.length c_7]) (cs' := [.slice a_4 r.length c_5, .slice a_6 w.length c_7]) rfl rfl rfl rfl Tryz.sizeOf23 rfl rfl (Nat.le_of_ble_eq_true rfl) rfl) ?_
  rintro _ _ rfl
  refine JL.nil ?_
  refine JQ.seq ?_
  refine JC.seq ?_
  refine JC.region ?_
  refine JL.ld rfl (LO.loadK 2 (vs := [.slice a_4 r.length c_5, .slice a_6 w.length c_7]) rfl rfl Tryz.isAgg30 Tryz.sizeOf30 rfl rfl) ?_
  refine JL.op rfl (JO.store 3 (vs := [.slice a_4 r.length c_5, .slice a_6 w.length c_7]) (cs' := [.slice a_4 r.length c_5, .slice a_6 w.length c_7]) rfl rfl rfl rfl Tryz.sizeOf30 rfl rfl (Nat.le_of_ble_eq_true rfl) rfl) ?_
  rintro _ _ rfl
  refine JL.nil ?_
  refine JQ.seq ?_
  refine JC.ret ?_
  refine JQ.perm (pick_perm [1, 0] (A := [Res.row (.slice a_4 r.length c_5) 9 1 r.length (r.map str), Res.row (.slice a_6 w.length c_7) 9 1 w.length (w.map str)]) (F := [bk b_3 30 [.slice a_4 r.length c_5, .slice a_6 w.length c_7], bk b_2 30 [.slice a_4 r.length c_5, .slice a_6 w.length c_7], bk b_1 25 [.slice a1 r.length c1, .slice a2 w.length c2]]) rfl).symm ?_
  refine Done.one (.inl rfl) rfl (RV.cell1 (LO.loadK 3 (vs := [.slice a_4 r.length c_5, .slice a_6 w.length c_7]) rfl rfl Tryz.isAgg30 Tryz.sizeOf30 rfl rfl) ⟨_, rfl⟩) (List.sublist_append_left [Res.row (.slice a_4 r.length c_5) 9 1 r.length (r.map str), Res.row (.slice a_6 w.length c_7) 9 1 w.length (w.map str)] [bk b_3 30 [.slice a_4 r.length c_5, .slice a_6 w.length c_7], bk b_2 30 [.slice a_4 r.length c_5, .slice a_6 w.length c_7], bk b_1 25 [.slice a1 r.length c1, .slice a2 w.length c2]]) ?_
  exact ⟨_, _, _, _, rfl, rfl⟩

theorem C_toMach (a1 a2 a3 : Option Addr) (c1 c2 c3 : Nat) (m : MS) (hs : m.s.length ≤ 1048576) (hr : m.r.length ≤ 1048576) (hw_ : m.w.length ≤ 1048576) :
    Ct Tryz.prog 17 [.agg #[.slice a1 m.s.length c1, .slice a2 m.r.length c2, .slice a3 m.w.length c3]] [] (fun w_ => Sees w_ (.slice a1 m.s.length c1) 2 m.s.length (m.s.flatMap encC) ∧ Sees w_ (.slice a2 m.r.length c2) 1 m.r.length (m.r.map str) ∧ Sees w_ (.slice a3 m.w.length c3) 1 m.w.length (m.w.map str)) (fun v A' => ∃ b1 d1 b2 d2 b3 d3, v = .agg #[.slice b1 m.s.length d1, .slice b2 m.r.length d2, .slice b3 m.w.length d3] ∧ A' = [.row (.slice b1 m.s.length d1) 113 2 m.s.length (m.s.flatMap encC), .row (.slice b2 m.r.length d2) 9 1 m.r.length (m.r.map str), .row (.slice b3 m.w.length d3) 9 1 m.w.length (m.w.map str)]) := by
  refine Ct.intro Tryz.func17 rfl Tryz.ntmps17 (Nat.le_of_ble_eq_true rfl) fun w0 hpre => ?_
  have hs_a1 : Sees w0 _ _ _ _ := hpre.1
  have hs_a2 : Sees w0 _ _ _ _ := hpre.2.1
  have hs_a3 : Sees w0 _ _ _ _ := hpre.2.2
  refine JC.seq ?_
  refine JC.region ?_
  refine JL.op rfl (JO.box (cs := [.slice a1 m.s.length c1, .slice a2 m.r.length c2, .slice a3 m.w.length c3]) rfl rfl) ?_
  rintro _ _ ⟨b_1, rfl, rfl⟩
  refine JL.op rfl (JO.alloc (z := .agg #[.slice none 0 0, .slice none 0 0, .slice none 0 0]) (cs := [.slice none 0 0, .slice none 0 0, .slice none 0 0]) Tryz.zeroValue32 rfl) ?_
  rintro _ _ ⟨b_2, rfl, rfl⟩
  refine JL.nil ?_
  refine JQ.seq ?_
  refine JC.seq ?_
  refine JC.region ?_
  refine JL.op rfl (JO.alloc (z := .agg #[.slice none 0 0, .slice none 0 0, .slice none 0 0]) (cs := [.slice none 0 0, .slice none 0 0, .slice none 0 0]) Tryz.zeroValue32 rfl) ?_
  rintro _ _ ⟨b_3, rfl, rfl⟩
  refine JL.nil ?_
  refine JQ.seq ?_
  refine JC.seq ?_
  refine JC.region ?_
  refine JL.pure rfl (PO.fieldAddr fo27_0 rfl) ?_
  refine JL.ld rfl (LO.load1 2 (v := .slice a1 m.s.length c1) rfl rfl Tryz.isAgg22 rfl) ?_
  refine JL.op rfl (JO.call [] Tryz.call125 rfl (C_toCellS a1 c1 m.s (by omega)) rfl (fun w hw => hw.seeOut_ hs_a1 (fun _ _ => List.not_mem_nil))) ?_
  rintro _ _ ⟨_, ⟨a_4, c_5, rfl, rfl⟩, rfl⟩
  refine JL.pure rfl (PO.fieldAddr fo32_0 rfl) ?_
  refine JL.op rfl (JO.store 1 (vs := [.slice a_4 m.s.length c_5]) (cs' := [.slice a_4 m.s.length c_5, .slice none 0 0, .slice none 0 0]) rfl rfl rfl rfl Tryz.sizeOf29 rfl rfl (Nat.le_of_ble_eq_true rfl) rfl) ?_
  rintro _ _ rfl
  refine JL.nil ?_
  refine JQ.seq ?_
  refine JC.seq ?_
  refine JC.region ?_
  refine JL.pure rfl (PO.fieldAddr fo27_1 rfl) ?_
  refine JL.ld rfl (LO.loadK 3 (vs := [.slice a2 m.r.length c2, .slice a3 m.w.length c3]) rfl rfl Tryz.isAgg25 Tryz.sizeOf25 rfl rfl) ?_
  refine JL.op rfl (JO.call [] Tryz.call126 rfl (C_toTouch a2 a3 c2 c3 m.r m.w (by omega) (by omega)) rfl (fun w hw => ⟨hw.seeOut_ hs_a2 (fun _ _ => List.not_mem_nil), hw.seeOut_ hs_a3 (fun _ _ => List.not_mem_nil)⟩)) ?_
  rintro _ _ ⟨_, ⟨a_6, c_7, a_8, c_9, rfl, rfl⟩, rfl⟩
  refine JL.pure rfl (PO.fieldAddr fo32_1 rfl) ?_
  refine JL.op rfl (JO.store 3 (vs := [.slice a_6 m.r.length c_7, .slice a_8 m.w.length c_9]) (cs' := [.slice a_4 m.s.length c_5, .slice a_6 m.r.length c_7, .slice a_8 m.w.length c_9]) rfl rfl rfl rfl Tryz.sizeOf30 rfl rfl (Nat.le_of_ble_eq_true rfl) rfl) ?_
  rintro _ _ rfl
  refine JL.nil ?_
  refine JQ.seq ?_
  refine JC.seq ?_
  refine JC.region ?_
  refine JL.ld rfl (LO.loadK 3 (vs := [.slice a_4 m.s.length c_5, .slice a_6 m.r.length c_7, .slice a_8 m.w.length c_9]) rfl rfl Tryz.isAgg32 Tryz.sizeOf32 rfl rfl) ?_
  refine JL.op rfl (JO.store 4 (vs := [.slice a_4 m.s.length c_5, .slice a_6 m.r.length c_7, .slice a_8 m.w.length c_9]) (cs' := [.slice a_4 m.s.length c_5, .slice a_6 m.r.length c_7, .slice a_8 m.w.length c_9]) rfl rfl rfl rfl Tryz.sizeOf32 rfl rfl (Nat.le_of_ble_eq_true rfl) rfl) ?_
  rintro _ _ rfl
  refine JL.nil ?_
  refine JQ.seq ?_
  refine JC.ret ?_
  refine JQ.perm (pick_perm [2, 0, 0] (A := [Res.row (.slice a_4 m.s.length c_5) 113 2 m.s.length (m.s.flatMap encC), Res.row (.slice a_6 m.r.length c_7) 9 1 m.r.length (m.r.map str), Res.row (.slice a_8 m.w.length c_9) 9 1 m.w.length (m.w.map str)]) (F := [bk b_3 32 [.slice a_4 m.s.length c_5, .slice a_6 m.r.length c_7, .slice a_8 m.w.length c_9], bk b_2 32 [.slice a_4 m.s.length c_5, .slice a_6 m.r.length c_7, .slice a_8 m.w.length c_9], bk b_1 27 [.slice a1 m.s.length c1, .slice a2 m.r.length c2, .slice a3 m.w.length c3]]) rfl).symm ?_
  refine Done.one (.inl rfl) rfl (RV.cell1 (LO.loadK 4 (vs := [.slice a_4 m.s.length c_5, .slice a_6 m.r.length c_7, .slice a_8 m.w.length c_9]) rfl rfl Tryz.isAgg32 Tryz.sizeOf32 rfl rfl) ⟨_, rfl⟩) (List.sublist_append_left [Res.row (.slice a_4 m.s.length c_5) 113 2 m.s.length (m.s.flatMap encC), Res.row (.slice a_6 m.r.length c_7) 9 1 m.r.length (m.r.map str), Res.row (.slice a_8 m.w.length c_9) 9 1 m.w.length (m.w.map str)] [bk b_3 32 [.slice a_4 m.s.length c_5, .slice a_6 m.r.length c_7, .slice a_8 m.w.length c_9], bk b_2 32 [.slice a_4 m.s.length c_5, .slice a_6 m.r.length c_7, .slice a_8 m.w.length c_9], bk b_1 27 [.slice a1 m.s.length c1, .slice a2 m.r.length c2, .slice a3 m.w.length c3]]) ?_
  exact ⟨_, _, _, _, _, _, rfl, rfl⟩

end Go.Proofs.YtenfajgpdhgknaaGreatDoor

set_option linter.unusedSimpArgs false
set_option linter.unusedVariables false
set_option linter.unnecessarySimpa false
namespace Go.Proofs.YtenfajgpdhgknaaGreatDoor
open Go Go.RowKit

theorem wr8 {x c : Int} (h : x = c ∧ 0 ≤ x ∧ x ≤ 255) : IntKind.u8.wrap x = c := by
  have : IntKind.u8.wrap x = x % 256 := by simp [IntKind.wrap, IntKind.bits, IntKind.signed]
  omega
/-- A byte, as a cell. -/
abbrev encB (b : UInt8) : Value := .int .u8 (b.toNat : Int)
theorem encB_of (k : Nat) (h : k < 256) : encB (UInt8.ofNat k) = .int .u8 (k : Int) := by
  unfold encB
  rw [UInt8.toNat_ofNat_of_lt' h]
theorem oneB (l : Str) : ∀ u ∈ l.map encB, u.oneCell' = true := by
  intro u hu
  obtain ⟨c, _, rfl⟩ := List.mem_map.1 hu
  rfl

section
variable {P : Program} {ops : Array Oper} {Q : Exit → Act → World → Prop} {n : Nat} {w0 w : World} {D : List Nat} {L : List Res} {e : Env}
variable {d : Option Tmp} {ty : TypeId} {pos : String} {aft : Array Edge} {gd : Option (Nat × Bool)}

theorem PO.quoN {x y : Operand} {k : IntKind} {a b : Int} {c : Int} {t u : TypeId} (hx : rd n e x = .int k a) (hy : rd n e y = .int k b) (hb : b ≠ 0) (ha : 0 ≤ a) (hb0 : 0 ≤ b) (hc : k.wrap (a / b) = c) : PO P n e ⟨d, .binOp .quo t x y u, ty, pos, aft, gd⟩ (.int k c) :=
  PO.quo hx hy hb (by rw [Int.tdiv_eq_ediv_of_nonneg ha]; exact hc)
theorem PO.remN {x y : Operand} {k : IntKind} {a b c : Int} {t u : TypeId} (hx : rd n e x = .int k a) (hy : rd n e y = .int k b) (hb : b ≠ 0) (ha : 0 ≤ a) (hc : a % b = c) : PO P n e ⟨d, .binOp .rem t x y u, ty, pos, aft, gd⟩ (.int k c) :=
  PO.rem hx hy hb (by rw [Int.tmod_eq_emod_of_nonneg ha]; exact hc)

/-- string(b), where b is owned. -/
theorem LO.toStr (i : Nat) {x : Operand} {el el2 s u m c : Nat} {a : Option Addr} {cs : List Value} (bs : Str) (hL : L[i]? = some (.row (.slice a m c) el2 1 m cs)) (hs : P.underlying s = some (.slice el)) (he : P.underlying el = some (.int .u8)) (hd : P.underlying u = some .string)
    (hx : rd n e x = .slice a m c) (hc : cs = bs.map encB) : LO P n w0 D L e ⟨d, .convert s u x, ty, pos, aft, gd⟩ (str bs) := fun w hw => by
  subst hc
  have hrow := hw.get hL
  have hm : bs.length = m := by have := hrow.1; simpa using this
  subst hm
  simp only [execOp, hx]
  cases a with
  | none =>
    rcases hrow.2 with ⟨_, h0⟩ | ⟨g, cap, cur, hv, _⟩
    · have : bs = [] := by simpa using h0
      subst this
      simp [convert, run_underlying hs, run_underlying hd, run_underlying he, Conv.bytesToString, str]
      rfl
    · simp at hv
  | some g =>
    have h1 := run_convert_bytes_back (P := P) w s u el g c bs hs he hd (fun j hj => by
      obtain ⟨g', hg', hcell⟩ := row_cell hrow (o := j) (u := encB (bs[j])) (by simp [hj])
      simp only [Option.some.injEq] at hg'
      subst hg'
      rw [add_lit, Nat.zero_add]
      exact hcell)
    simp [h1, str]

end

theorem drop_at {α : Type} {l : List α} {i : Nat} {v : α} (h : l[i]? = some v) : l.drop i = v :: l.drop (i + 1) := by
  obtain ⟨h1, h2⟩ := List.getElem?_eq_some_iff.1 h
  rw [List.drop_eq_getElem_cons h1, h2]
theorem take_at {α : Type} {l : List α} {i : Nat} {v : α} (h : l[i]? = some v) : l.take (i + 1) = l.take i ++ [v] := by
  rw [List.take_add_one, h]; rfl
theorem set1 {s : List Cell} {i : Nat} {k : Str} (h : i < s.length) : (s.flatMap encC).take (i * 2) ++ [str k] ++ (s.flatMap encC).drop (i * 2 + 1) = (s.set i (k, (s.getD i c0).2)).flatMap encC := by
  rw [← setC h, drop_at (atC2 h)]
  simp [List.append_assoc]
theorem set2 {s : List Cell} {i : Nat} {k : Str} (h : i < s.length) : (s.flatMap encC).take (i * 2 + 1) ++ [str k] ++ (s.flatMap encC).drop (i * 2 + 1 + 1) = (s.set i ((s.getD i c0).1, k)).flatMap encC := by
  rw [← setC h, take_at (atC1 h)]
  simp [List.append_assoc]

/-- The text of a mark. -/
def mtAcc (k : Nat) (out : Str) : Str := if h : k = 0 then out else mtAcc (k / 10) (UInt8.ofNat (48 + k % 10) :: out)
termination_by k
decreasing_by omega
theorem mtAcc_step {k : Nat} {out : Str} (h : 0 < k) : mtAcc (k / 10) ([UInt8.ofNat (48 + k % 10)] ++ out) = mtAcc k out := by
  rw [mtAcc.eq_1 k, dif_neg (by omega)]
  rfl
theorem mtAcc_zero {k : Nat} {out : Str} (h : k = 0) : mtAcc k out = out := by
  subst h
  rw [mtAcc]; rfl
theorem mtAcc_len : ∀ (n k : Nat) (out : Str), k ≤ n → (mtAcc k out).length ≤ out.length + k := by
  intro n
  induction n with
  | zero => intro k out h; rw [mtAcc_zero (by omega)]; omega
  | succ n ih =>
    intro k out h
    rcases Nat.eq_zero_or_pos k with h0 | h0
    · rw [mtAcc_zero h0]; omega
    · rw [← mtAcc_step h0]
      have := ih (k / 10) ([UInt8.ofNat (48 + k % 10)] ++ out) (by omega)
      simp only [List.length_append, List.length_cons, List.length_nil] at this
      omega
def mt (k : Nat) : Str := 109 :: mtAcc k []
/-- What the marks make of a list, the first of them k. -/
def markS : List Str → Nat → List Str
  | [], _ => []
  | _ :: l, k => mt k :: markS l (k + 1)
def markC : List Cell → Nat → List Cell
  | [], _ => []
  | _ :: l, k => (mt k, mt (k + 1)) :: markC l (k + 2)
theorem markS_len : ∀ (l : List Str) (k : Nat), (markS l k).length = l.length
  | [], _ => rfl
  | _ :: l, k => by simp [markS, markS_len l]
theorem markC_len : ∀ (l : List Cell) (k : Nat), (markC l k).length = l.length
  | [], _ => rfl
  | _ :: l, k => by simp [markC, markC_len l]
theorem markS_at : ∀ (l : List Str) (k j : Nat), j < l.length → (markS l k).getD j [] = mt (k + j)
  | [], _, _, h => by simp at h
  | _ :: l, k, 0, _ => rfl
  | _ :: l, k, j + 1, h => by
    have := markS_at l (k + 1) j (by simpa using h)
    rw [markS, List.getD_cons_succ, this]; congr 1; omega
theorem markC_at : ∀ (l : List Cell) (k j : Nat), j < l.length → (markC l k).getD j c0 = (mt (k + 2 * j), mt (k + 2 * j + 1))
  | [], _, _, h => by simp at h
  | _ :: l, k, 0, _ => rfl
  | _ :: l, k, j + 1, h => by
    have := markC_at l (k + 2) j (by simpa using h)
    rw [markC, List.getD_cons_succ, this]
    congr 2 <;> omega
theorem set_mid {α : Type} {p r : List α} {x y : α} {j : Nat} (h : p.length = j) : (p ++ x :: r).set j y = p ++ [y] ++ r := by
  subst h
  rw [List.set_append_right _ _ (Nat.le_refl _), Nat.sub_self, List.set_cons_zero, List.append_assoc]
  rfl
theorem markS_step {l : List Str} {k j : Nat} (h : j < l.length) : ((markS l k).take j ++ l.drop j).set j (mt (k + j)) = (markS l k).take (j + 1) ++ l.drop (j + 1) := by
  have hl := markS_len l k
  have h1 : (markS l k)[j]? = some (mt (k + j)) := by rw [← markS_at l k j h]; exact getD_some (by omega)
  rw [take_at h1, List.drop_eq_getElem_cons h]
  have h2 : ((markS l k).take j).length = j := by rw [List.length_take]; omega
  exact set_mid h2
theorem markC_step {l : List Cell} {k j : Nat} (h : j < l.length) : ((markC l k).take j ++ l.drop j).set j (mt (k + 2 * j), mt (k + 2 * j + 1)) = (markC l k).take (j + 1) ++ l.drop (j + 1) := by
  have hl := markC_len l k
  have h1 : (markC l k)[j]? = some (mt (k + 2 * j), mt (k + 2 * j + 1)) := by rw [← markC_at l k j h]; exact getD_some (by omega)
  rw [take_at h1, List.drop_eq_getElem_cons h]
  have h2 : ((markC l k).take j).length = j := by rw [List.length_take]; omega
  exact set_mid h2
theorem mark_all {α : Type} {l m : List α} (h : m.length = l.length) {j : Nat} (hj : l.length ≤ j) : m.take j ++ l.drop j = m := by
  rw [List.take_of_length_le (by omega), List.drop_of_length_le hj, List.append_nil]
theorem mark_len {α : Type} {l m : List α} (h : m.length = l.length) {j : Nat} (hj : j ≤ l.length) : (m.take j ++ l.drop j).length = l.length := by
  simp; omega
end Go.Proofs.YtenfajgpdhgknaaGreatDoor

set_option linter.unusedSimpArgs false
set_option linter.unusedVariables false
set_option linter.unnecessarySimpa false
namespace Go.Proofs.YtenfajgpdhgknaaGreatDoor
open Go Go.RowKit

theorem info_of {P : Program} {el : TypeId} {ti : TypeInfo} (w : World) (h : ∀ w, (typeInfo el).run P w = .ok ti w) : P.info? el = some ti := by
  have h1 := h w
  cases hi : P.info? el with
  | none => simp [typeInfo, hi] at h1
  | some i => simp [typeInfo, hi] at h1; rw [h1]

/-- Where a piece of a slice begins. -/
def subA (k : Nat) (a : Option Addr) (c lo : Nat) : Option Addr := if c = lo then a else a.map fun g => ⟨g.block, g.off + lo * k, none⟩

section
variable {P : Program} {ops : Array Oper} {Q : Exit → Act → World → Prop} {n : Nat} {w0 w : World} {D : List Nat} {L : List Res} {e : Env}
variable {d : Option Tmp} {ty : TypeId} {pos : String} {aft : Array Edge} {gd : Option (Nat × Bool)}

theorem sub_add {k c lo : Nat} {a : Option Addr} (ha : a.bind (·.spot) = none) : (if c = lo then a else a.map (·.add (lo * k))) = subA k a c lo := by
  unfold subA
  split
  · rfl
  · cases a with
    | none => rfl
    | some g =>
      obtain ⟨b, o, s⟩ := g
      simp only [Option.bind_some] at ha
      subst ha
      simp [add_lit]
theorem sub_zero {k c : Nat} {a : Option Addr} (ha : a.bind (·.spot) = none) : subA k a c 0 = a := by
  unfold subA
  split
  · rfl
  · cases a with
    | none => rfl
    | some g =>
      obtain ⟨b, o, s⟩ := g
      simp only [Option.bind_some] at ha
      subst ha
      simp

theorem elem_of {t el : TypeId} (ht : P.underlying t = some (.slice el)) : P.underlying t = some (.slice (P.elem t)) := by
  have : P.elem t = el := by simp [Program.elem, ht]
  rw [this]; exact ht

theorem PO.sliceVl {x lo : Operand} {a : Option Addr} {m c i k : Nat} {q : IntKind} {t el : TypeId} (ht : P.underlying t = some (.slice el)) (hs : ∀ w, (sizeOf el).run P w = .ok k w) (ha : a.bind (·.spot) = none)
    (hx : rd n e x = .slice a m c) (hl : rd n e lo = .int q i) (h1 : i ≤ m) : PO P n e ⟨d, .slice t x (some lo) none none, ty, pos, aft, gd⟩ (.slice (subA k a c i) (m - i) (c - i)) := fun w => by
  have hsub := sub_add (k := k) (c := c) (lo := i) ha
  simp [execOp, run_sliceAt_slice _ _ _ _ _ _ (elem_of ht), Instr.slice, run_underlying ht, hx, hl, Instr.sliceBounds, Instr.sliceBound, asIntOf, hs, h1, hsub]
theorem PO.sliceVh {x hi : Operand} {a : Option Addr} {m c j k : Nat} {q : IntKind} {t el : TypeId} (ht : P.underlying t = some (.slice el)) (hs : ∀ w, (sizeOf el).run P w = .ok k w) (ha : a.bind (·.spot) = none)
    (hx : rd n e x = .slice a m c) (hh : rd n e hi = .int q j) (h1 : j ≤ c) : PO P n e ⟨d, .slice t x none (some hi) none, ty, pos, aft, gd⟩ (.slice a j c) := fun w => by
  have hsub := sub_add (k := k) (c := c) (lo := 0) ha
  rw [sub_zero ha] at hsub
  have hsub' : (if c = 0 then a else a.map (·.add 0)) = a := by rw [Nat.zero_mul] at hsub; exact hsub
  simp [execOp, run_sliceAt_slice _ _ _ _ _ _ (elem_of ht), Instr.slice, run_underlying ht, hx, hh, Instr.sliceBounds, Instr.sliceBound, asIntOf, hs, h1, hsub']

/-- What is seen of a piece. -/
theorem Sees.sub {a : Option Addr} {k m c : Nat} {cs : List Value} (h : Sees w (.slice a m c) k m cs) (lo hi : Nat) (h1 : lo ≤ hi) (h2 : hi ≤ m) :
    Sees w (.slice (subA k a c lo) (hi - lo) (c - lo)) k (hi - lo) ((cs.drop (lo * k)).take ((hi - lo) * k)) := by
  obtain ⟨hl, h⟩ := h
  have e1 : lo * k + (hi - lo) * k = hi * k := by rw [← Nat.add_mul]; congr 1; omega
  have e2 : hi * k ≤ m * k := Nat.mul_le_mul_right k h2
  refine ⟨by rw [List.length_take, List.length_drop, hl]; omega, ?_⟩
  rcases h with ⟨hv, rfl⟩ | ⟨b, o, cap, hv, h3, h4, h5, h6⟩
  · simp only [Value.slice.injEq] at hv
    obtain ⟨rfl, _, rfl⟩ := hv
    have : lo = 0 := by omega
    subst this
    have : hi = 0 := by omega
    subst this
    exact .inl ⟨by simp [subA], rfl⟩
  · simp only [Value.slice.injEq] at hv
    obtain ⟨rfl, _, rfl⟩ := hv
    unfold subA
    split
    · rename_i hc
      have hz : hi - lo = 0 := by omega
      rw [hz]
      refine .inr ⟨b, o, c - lo, rfl, by omega, by omega, h5, fun j u hj => ?_⟩
      simp at hj
    · refine .inr ⟨b, o + lo * k, c - lo, rfl, by omega, by omega, h5, fun j u hj => ?_⟩
      rw [List.getElem?_take] at hj
      split at hj
      · rw [List.getElem?_drop] at hj
        have := h6 _ _ hj
        rwa [← Nat.add_assoc] at this
      · cases hj
theorem Sees.hi {a : Option Addr} {k m c : Nat} {cs : List Value} (h : Sees w (.slice a m c) k m cs) (hi : Nat) (h2 : hi ≤ m) : Sees w (.slice a hi c) k hi (cs.take (hi * k)) := by
  have h0 := h.sub 0 hi (Nat.zero_le _) h2
  have ha : a.bind (·.spot) = none := by
    rcases h.2 with ⟨hv, _⟩ | ⟨b, o, cap, hv, _⟩ <;> (simp only [Value.slice.injEq] at hv; obtain ⟨rfl, _⟩ := hv; rfl)
  rw [sub_zero ha] at h0
  simpa using h0

/-- Cells laid behind a slice whose row is owned. -/
theorem St.storeRow (hw : St w0 D L w) {i el k m c o : Nat} {a : Option Addr} {cs vs : List Value} (hL : L[i]? = some (.row (.slice a m c) el k m cs)) (h0 : 0 < vs.length) (hfit : o + vs.length ≤ cs.length) (h1 : ∀ u ∈ vs, u.oneCell' = true) :
    ∃ g, a = some ⟨g, 0, none⟩ ∧ ∃ w', (storeCells ⟨g, o, none⟩ vs).run P w = .ok () w' ∧ St w0 D (L.set i (.row (.slice a m c) el k m (cs.take o ++ vs ++ cs.drop (o + vs.length)))) w' := by
  have hrow := hw.get hL
  have hcl := hrow.1
  rcases hrow.2 with ⟨hvv, hm0⟩ | ⟨g, cap, cur, hvv, hg0, hg, h2, h3, h4, h5⟩
  · subst hm0
    simp only [Nat.zero_mul] at hcl
    omega
  · simp only [Value.slice.injEq] at hvv
    obtain ⟨rfl, _, rfl⟩ := hvv
    have hcur : cs.length ≤ cur.size := by rw [← h5, List.length_take, Array.length_toList]; exact Nat.min_le_right _ _
    have hst := run_storeCells_R P g o el vs 0 cur w hg (by omega) h1
    simp only [Nat.add_zero] at hst
    refine ⟨g, rfl, _, hst, ?_⟩
    refine hw.turn1 hL rfl rfl rfl (by simp) (fun q _ hq => setRow_other w g q _ (by simpa [Res.ids, Value.ownBlock] using hq)) ?_ (by simp [Res.ids, Value.ownBlock]) (fun q hq => .inl (by simpa [Res.ids, Value.ownBlock] using hq))
    refine ⟨?_, .inr ⟨g, c, _, rfl, hg0, hg.setRow (by simp only [List.size_toArray, List.length_append, List.length_take, List.length_drop, Array.length_toList]; omega), h2, h3, ?_, ?_⟩⟩
    · rw [List.length_append, List.length_append, List.length_take, List.length_drop]
      omega
    · simp only [List.size_toArray, List.length_append, List.length_take, List.length_drop, Array.length_toList]
      omega
    · show (cur.toList.take o ++ vs ++ cur.toList.drop (o + vs.length)).take (m * k) = _
      have e1 : cs.take o = cur.toList.take o := by rw [← h5, List.take_take, Nat.min_eq_left (by omega)]
      have e2 : cs.drop (o + vs.length) = (cur.toList.drop (o + vs.length)).take (m * k - (o + vs.length)) := by rw [← h5, List.drop_take]
      rw [e1, e2, List.take_append]
      have e3 : (cur.toList.take o ++ vs).length = o + vs.length := by
        rw [List.length_append, List.length_take, Array.length_toList]; omega
      rw [e3, List.take_of_length_le (by rw [e3]; omega)]

/-- The first cells of what a copy takes. -/
def Fst (P : Program) (w : World) (k q : Nat) (x : Value) (news : List Value) : Prop := ∀ w', w'.heap = w.heap → (Builtin.firstCells k q x).run P w' = .ok news.toArray w'
theorem Fst.sees {k m q c : Nat} {a : Option Addr} {cs : List Value} (h : Sees w (.slice a m c) k m cs) (hq : q ≤ m) : Fst P w k q (.slice a m c) (cs.take (q * k)) := by
  obtain ⟨hl, h⟩ := h
  intro w' hw'
  rcases h with ⟨hv, rfl⟩ | ⟨b, o, cap, hv, h2, h3, h4, h5⟩
  · simp only [Value.slice.injEq] at hv
    obtain ⟨rfl, -, rfl⟩ := hv
    have : q = 0 := by omega
    subst this
    simp [Builtin.firstCells]
  · simp only [Value.slice.injEq] at hv
    obtain ⟨rfl, -, rfl⟩ := hv
    refine run_firstCells_some w' k q ⟨b, o, none⟩ m c _ ?_ fun j v hj => ?_
    · rw [List.length_take, hl]
      exact Nat.min_eq_left (Nat.mul_le_mul_right k hq)
    · rw [add_lit]
      rw [List.getElem?_take] at hj
      split at hj
      · have := h5 j v hj
        simpa [World.cell?, hw'] using this
      · cases hj

/-- copy into a row that is owned. -/
theorem JO.copy (i : Nat) {x y : Operand} {t t' el k m c lo dl dc q sl sc : Nat} {a sa : Option Addr} {cs news cs' : List Value} (hL : L[i]? = some (.row (.slice a m c) el k m cs)) (ht : P.underlying t = some (.slice el)) (hs : ∀ w, (sizeOf el).run P w = .ok k w)
    (hx : rd n e x = .slice (subA k a c lo) dl dc) (hy : rd n e y = .slice sa sl sc) (hq : Nat.min sl dl = q) (hfit : lo + q ≤ m) (h0 : 0 < q) (hk : 0 < k) (hmc : m ≤ c) (hsrc : ∀ w, St w0 D L w → Fst P w k q (.slice sa sl sc) news) (hnl : news.length = q * k)
    (hone : ∀ u ∈ news, u.oneCell' = true) (hc : cs.take (lo * k) ++ news ++ cs.drop (lo * k + news.length) = cs') :
    JO P n w0 D L e ⟨d, .call ⟨.builtin .copy, #[x, y], #[t, t']⟩, ty, pos, aft, gd⟩ (fun v L' => L' = L.set i (.row (.slice a m c) el k m cs')) := JO.ofRun fun w hw => by
  have hcl := (hw.get hL).1
  have hqk : 0 < q * k := Nat.mul_pos h0 hk
  have e1 : lo * k + q * k = (lo + q) * k := by rw [Nat.add_mul]
  have e2 : (lo + q) * k ≤ m * k := Nat.mul_le_mul_right k hfit
  obtain ⟨g, rfl, w', hst, hw'⟩ := hw.storeRow (P := P) hL (o := lo * k) (vs := news) (by omega) (by omega) hone
  have hsub : subA k (some ⟨g, 0, none⟩) c lo = some ⟨g, lo * k, none⟩ := by
    unfold subA
    rw [if_neg (by omega)]
    simp
  rw [hsub] at hx
  rw [hc] at hw'
  have hf := hsrc w hw w rfl
  refine ⟨goInt q, _, w', ?_, rfl, hw'⟩
  simp [execOp, resolve, invoke, builtin, hx, hy, Builtin.copy_, run_underlying ht, hs, Builtin.lenOf, hq, hf, hst]

/-- append(s[:i], make(..)...) where there is no room: a new row; s stays. -/
theorem JO.appendMake (j : Nat) {x y : Operand} {t u el k m c i r by' : Nat} {q kn : IntKind} {a : Option Addr} {cs : List Value} {ti : TypeInfo} {z : Value} (hL : L[j]? = some (.row (.slice a m c) el k m cs)) (ht : P.underlying t = some (.slice el)) (hu : P.underlying u = some (.int kn))
    (hti' : ∀ w, (typeInfo el).run P w = .ok ti w) (hk : ti.size = k) (hk0 : 0 < k) (hby : ti.bytes = by') (hz : ti.zero = some z) (hzc : z.cells.size = k) (hx : rd n e x = .slice a i c) (hy : rd n e y = .int q r) (hi : i ≤ m) (h0 : 0 < r) (hg : c < i + r) (hb : (i + r) * by' ≤ 140737488355328) (hb1 : 0 < by') :
    JO P n w0 D L e ⟨d, .call ⟨.builtin .append, #[x, y], #[t, u]⟩, ty, pos, aft, gd⟩ (fun v L' => ∃ a' c' zs, v = .slice a' (i + r) c' ∧ i + r ≤ c' ∧ a'.isSome = true ∧ a'.bind (·.spot) = none ∧ zs.length = r * k ∧ L' = .row (.slice a' (i + r) c') el k (i + r) (cs.take (i * k) ++ zs) :: L) := JO.ofRun fun w hw => by
  subst hk; subst hby
  have hti := info_of w hti'
  have hrow := hw.get hL
  have hcl : cs.length = m * ti.size := hrow.1
  have h1 : (i + r) * 1 ≤ (i + r) * ti.bytes := Nat.mul_le_mul_left _ hb1
  have h2 : r * ti.bytes ≤ (i + r) * ti.bytes := Nat.mul_le_mul_right _ (by omega)
  have hold : (Builtin.firstCells ti.size i (.slice a i c)).run P w.drew = .ok (cs.take (i * ti.size)).toArray w.drew := by
    have hsee := (hw.drew).see hL
    have := Fst.sees (P := P) (hsee.hi i hi) (Nat.le_refl i) w.drew rfl
    rw [List.take_take, Nat.min_self] at this
    exact this
  have hrun := Lib.run_append_grow_zeros (P := P) w t u ty el ti z q kn ht hu hti hz a i c (cs.take (i * ti.size)) hold r h0 hk0 hg (by omega) (by omega) (growslice_fits hg hb)
  have hlen : (cs.take (i * ti.size)).length = i * ti.size := by
    rw [List.length_take, hcl]
    exact Nat.min_eq_left (Nat.mul_le_mul_right _ hi)
  have hge := grownCap_ge w (i + r) c el
  have hmx := grownCap_le_maxLen w (i + r) c el (by unfold maxLen; omega)
  have hzr : (Builtin.zeroCells z.cells r).size = r * ti.size := by rw [size_zeroCells, hzc]
  have hsz : ((cs.take (i * ti.size)).toArray ++ Builtin.zeroCells z.cells r ++ Builtin.zeroCells z.cells (grownCap w (i + r) c el - (i + r))).size = grownCap w (i + r) c el * ti.size := by
    simp only [Array.size_append, List.size_toArray, hlen, hzr, size_zeroCells, hzc]
    rw [← Nat.add_mul, ← Nat.add_mul]
    congr 1
    omega
  have hst := (hw.drew).newRow el ti.size (i + r) (grownCap w (i + r) c el) _ hge hmx hsz
  have hcs : (((cs.take (i * ti.size)).toArray ++ Builtin.zeroCells z.cells r ++ Builtin.zeroCells z.cells (grownCap w (i + r) c el - (i + r))).toList).take ((i + r) * ti.size) = cs.take (i * ti.size) ++ (Builtin.zeroCells z.cells r).toList := by
    simp only [Array.toList_append]
    rw [List.take_append_of_le_length (by rw [List.length_append, hlen, Array.length_toList, hzr, Nat.add_mul]; exact Nat.le_refl _)]
    exact List.take_of_length_le (by rw [List.length_append, hlen, Array.length_toList, hzr, Nat.add_mul]; exact Nat.le_refl _)
  rw [hcs] at hst
  refine ⟨_, _, _, ?_, ⟨some ⟨w.heap.size, 0, none⟩, grownCap w (i + r) c el, (Builtin.zeroCells z.cells r).toList, rfl, hge, rfl, rfl, by rw [Array.length_toList, hzr], rfl⟩, hst⟩
  simp [execOp, resolve, invoke, builtin, hx, hy, hrun]

/-- clear(s[lo:]), where the row is owned. -/
theorem JO.clear (i : Nat) {x : Operand} {t el k m c lo dc : Nat} {a : Option Addr} {cs : List Value} {z : Value} (hL : L[i]? = some (.row (.slice a m c) el k m cs)) (ht : P.underlying t = some (.slice el)) (hz : ∀ w, (zeroValue el).run P w = .ok z w) (hzc : z.cells.size = k) (hzo : ∀ u ∈ z.cells, u.oneCell' = true)
    (hx : rd n e x = .slice (subA k a c lo) (m - lo) dc) (hk : 0 < k) (hlo : lo ≤ m) (hmc : m ≤ c) :
    JO P n w0 D L e ⟨d, .call ⟨.builtin .clear, #[x], #[t]⟩, ty, pos, aft, gd⟩ (fun v L' => ∃ zs : List Value, zs.length = (m - lo) * k ∧ L' = L.set i (.row (.slice a m c) el k m (cs.take (lo * k) ++ zs))) := JO.ofRun fun w hw => by
  have hcl := (hw.get hL).1
  by_cases h0 : lo = m
  · subst h0
    refine ⟨.tuple #[], _, w, ?_, ⟨[], by simp, rfl⟩, ?_⟩
    · cases hsub : subA k a c lo with
      | none => simp [execOp, resolve, invoke, builtin, hx, hsub, Builtin.clear_, run_underlying ht]
      | some g => simp [execOp, resolve, invoke, builtin, hx, hsub, Builtin.clear_, run_underlying ht]
    · rw [List.append_nil, List.take_of_length_le (by omega)]
      have : L.set i (.row (.slice a lo c) el k lo cs) = L := List.ext_getElem? fun j => by
        rw [List.getElem?_set]
        split
        · rename_i hij; subst hij; split <;> simp_all
        · rfl
      rw [this]; exact hw
  · have hn : (Builtin.zeroCells z.cells (m - lo)).size = (m - lo) * k := by rw [size_zeroCells, hzc]
    have hpos : 0 < (m - lo) * k := Nat.mul_pos (by omega) hk
    have e1 : lo * k + (m - lo) * k = m * k := by rw [← Nat.add_mul]; congr 1; omega
    have hone : ∀ u ∈ (Builtin.zeroCells z.cells (m - lo)).toList, u.oneCell' = true := by
      intro u hu
      simp only [Builtin.zeroCells, Array.toList_map, List.mem_map, Array.mem_toList_iff, Array.mem_range] at hu
      obtain ⟨j, hj, rfl⟩ := hu
      have hjk : j % z.cells.size < z.cells.size := Nat.mod_lt _ (by omega)
      rw [getElem!_pos z.cells (j % z.cells.size) hjk]
      exact hzo _ (Array.getElem_mem hjk)
    obtain ⟨g, rfl, w', hst, hw'⟩ := hw.storeRow (P := P) hL (o := lo * k) (vs := (Builtin.zeroCells z.cells (m - lo)).toList) (by rw [Array.length_toList, hn]; exact hpos) (by rw [Array.length_toList, hn]; omega) hone
    have hsub : subA k (some ⟨g, 0, none⟩) c lo = some ⟨g, lo * k, none⟩ := by
      unfold subA
      rw [if_neg (by omega)]
      simp
    rw [hsub] at hx
    rw [List.drop_of_length_le (by simp only [Array.length_toList, hn]; omega), List.append_nil] at hw'
    refine ⟨.tuple #[], _, w', ?_, ⟨_, by rw [Array.length_toList, hn], rfl⟩, hw'⟩
    have hne : m - lo ≠ 0 := by omega
    obtain ⟨p, hp⟩ : ∃ p, m - lo = p + 1 := ⟨m - lo - 1, by omega⟩
    rw [hp] at hx hst
    simp [execOp, resolve, invoke, builtin, hx, Builtin.clear_, run_underlying ht, hz, hst]

/-- A row of more of its room, and of less. -/
theorem St.widen (hw : St w0 D L w) {i el k m c : Nat} {a : Option Addr} {cs : List Value} (hL : L[i]? = some (.row (.slice a m c) el k m cs)) (q : Nat) (hq : m + q ≤ c) :
    ∃ zs : List Value, zs.length = q * k ∧ St w0 D (L.set i (.row (.slice a (m + q) c) el k (m + q) (cs ++ zs))) w := by
  have hrow := hw.get hL
  have hcl := hrow.1
  rcases hrow.2 with ⟨hvv, hm0⟩ | ⟨g, cap, cur, hvv, hg0, hg, h2, h3, h4, h5⟩
  · simp only [Value.slice.injEq] at hvv
    obtain ⟨rfl, rfl, rfl⟩ := hvv
    have : q = 0 := by omega
    subst this
    refine ⟨[], by simp, ?_⟩
    refine hw.turn1 hL rfl rfl rfl (Nat.le_refl _) (fun _ _ _ => rfl) ?_ (by simp [Res.ids, Value.ownBlock]) (fun q hq => .inl hq)
    simpa using hrow
  · simp only [Value.slice.injEq] at hvv
    obtain ⟨rfl, _, rfl⟩ := hvv
    have e0 : (m + q) * k ≤ c * k := Nat.mul_le_mul_right k hq
    have e1 : (m + q) * k = m * k + q * k := Nat.add_mul _ _ _
    refine ⟨(cur.toList.drop (m * k)).take (q * k), by rw [List.length_take, List.length_drop, Array.length_toList]; omega, ?_⟩
    refine hw.turn1 hL rfl rfl rfl (Nat.le_refl _) (fun _ _ _ => rfl) ?_ (by simp [Res.ids, Value.ownBlock]) (fun q hq => .inl (by simpa [Res.ids, Value.ownBlock] using hq))
    refine ⟨by rw [List.length_append, hcl, List.length_take, List.length_drop, Array.length_toList]; omega, .inr ⟨g, c, cur, rfl, hg0, hg, hq, h3, h4, ?_⟩⟩
    rw [e1, List.take_add, h5]
theorem St.narrow (hw : St w0 D L w) {i el k m c : Nat} {a : Option Addr} {cs : List Value} (hL : L[i]? = some (.row (.slice a m c) el k m cs)) (q : Nat) (hq : q ≤ m) :
    St w0 D (L.set i (.row (.slice a q c) el k q (cs.take (q * k)))) w := by
  have hrow := hw.get hL
  have hcl := hrow.1
  have e0 : q * k ≤ m * k := Nat.mul_le_mul_right k hq
  refine hw.turn1 hL rfl rfl rfl (Nat.le_refl _) (fun _ _ _ => rfl) ?_ (by cases a <;> simp [Res.ids, Value.ownBlock]) (fun q' hq' => .inl (by
    cases a with
    | none => simp [Res.ids, Value.ownBlock] at hq'
    | some g => simpa [Res.ids, Value.ownBlock] using hq'))
  rcases hrow.2 with ⟨hvv, hm0⟩ | ⟨g, cap, cur, hvv, hg0, hg, h2, h3, h4, h5⟩
  · simp only [Value.slice.injEq] at hvv
    obtain ⟨rfl, rfl, rfl⟩ := hvv
    have : q = 0 := by omega
    subst this
    refine ⟨?_, .inl ⟨rfl, rfl⟩⟩
    simp
  · simp only [Value.slice.injEq] at hvv
    obtain ⟨rfl, _, rfl⟩ := hvv
    refine ⟨by rw [List.length_take, hcl]; omega, .inr ⟨g, c, cur, rfl, hg0, hg, by omega, h3, h4, ?_⟩⟩
    rw [← h5, List.take_take, Nat.min_eq_left e0]
theorem JC.widen (i q : Nat) {c' : Code} {el k m c : Nat} {a : Option Addr} {cs : List Value} (hL : L[i]? = some (.row (.slice a m c) el k m cs)) (hq : m + q ≤ c)
    (h : ∀ zs : List Value, zs.length = q * k → JC P Q n w0 D (L.set i (.row (.slice a (m + q) c) el k (m + q) (cs ++ zs))) c' e) : JC P Q n w0 D L c' e := fun w hw => by
  obtain ⟨zs, hz, hst⟩ := hw.widen hL q hq
  exact h zs hz w hst
theorem JC.narrow (i q : Nat) {c' : Code} {el k m c : Nat} {a : Option Addr} {cs cs' : List Value} (hL : L[i]? = some (.row (.slice a m c) el k m cs)) (hq : q ≤ m) (hc : cs.take (q * k) = cs')
    (h : JC P Q n w0 D (L.set i (.row (.slice a q c) el k q cs')) c' e) : JC P Q n w0 D L c' e := fun w hw => h w (by rw [← hc]; exact hw.narrow hL q hq)

/-- Two rows lie apart: slices.overlaps says no. -/
theorem JO.overlaps (i j : Nat) (hij : i ≠ j) {f : FuncId} {x y : Operand} {ats : Array TypeId} {tS tR el k m c m' c' lo dl dc : Nat} {a b : Option Addr} {cs cs' : List Value} (hL : L[i]? = some (.row (.slice a m c) el k m cs)) (hL' : L[j]? = some (.row (.slice b m' c') el k m' cs'))
    (hf : ∀ args w, (callFunc f args).run P w = ((Extern.SlicesOverlaps.overlaps #[tS, tS] #[tR] args).run P w).andThen fun v w' => .ok (.value v) w') (ht : P.underlying tS = some (.slice el)) (hs : ∀ w, (sizeOf el).run P w = .ok k w)
    (hx : rd n e x = .slice a m c) (hy : rd n e y = .slice (subA k b c' lo) dl dc) (hm : 0 < m) (hm' : 0 < m') (hk : 0 < k) (hel : el ≠ TB) :
    JO P n w0 D L e ⟨d, .call ⟨.value (.func f), #[x, y], ats⟩, ty, pos, aft, gd⟩ (fun v L' => v = .bool false ∧ L' = L) := JO.ofRun fun w hw => by
  have h1 := hw.get hL
  have h2 := hw.get hL'
  rcases h1.2 with ⟨_, h0⟩ | ⟨g, cap, cur, hvv, hg0, hg, q2, q3, q4, q5⟩
  · omega
  rcases h2.2 with ⟨_, h0⟩ | ⟨g', cap', cur', hvv', hg0', hg', q2', q3', q4', q5'⟩
  · omega
  simp only [Value.slice.injEq] at hvv hvv'
  obtain ⟨rfl, _, rfl⟩ := hvv
  obtain ⟨rfl, _, rfl⟩ := hvv'
  have hne : g ≠ g' := by
    intro he
    subst he
    have hp := (perm_erase i _ hL)
    have hnd := hw.nodup
    have hnd' := (idsOf_perm hp).nodup_iff.1 hnd
    rw [idsOf_cons, List.nodup_append] at hnd'
    have hmem : (.row (.slice (some ⟨g, 0, none⟩) m' c') el k m' cs' : Res) ∈ L.eraseIdx i := by
      rw [List.mem_eraseIdx_iff_getElem?]
      exact ⟨j, fun h => hij h.symm, hL'⟩
    exact hnd'.2.2 g (by simp [Res.ids, Value.ownBlock]) g (mem_idsOf.2 ⟨_, hmem, by simp [Res.ids, Value.ownBlock]⟩) rfl
  have hblk : ∃ o, subA k (some ⟨g', 0, none⟩) c' lo = some ⟨g', o, none⟩ := by
    unfold subA
    split
    · exact ⟨0, rfl⟩
    · exact ⟨_, rfl⟩
  obtain ⟨o, ho⟩ := hblk
  rw [ho] at hy
  have hc0 : cur'.size ≠ 0 := by
    have : 0 < c' * k := Nat.mul_pos (by omega) hk
    omega
  have hov := Lib.run_overlaps_apart (P := P) w tS tR el ht k hs ⟨g, 0, none⟩ ⟨g', o, none⟩ m c dl dc hne el el cur.size cur'.size hg.shape hg'.shape hc0 (hg.unfrozen (.inr hel)) (hg.unfrozen (.inr hel))
  refine ⟨_, _, w, ?_, ⟨rfl, rfl⟩, hw⟩
  have hr : rd n e (.func f) = .func (.func f) #[] #[] := rfl
  simp [execOp, resolve, Deferred.ofValue, hr, invoke, hx, hy, hf, hov]

/-- append, the row and its length read otherwise. -/
theorem JO.append' (i : Nat) {t u el k m c q by' n' : Nat} {x y : Operand} {vy : Value} {a : Option Addr} {cs news cs' : List Value} {ti : TypeInfo} {z : Value} {el2 : TypeId}
    (hL : L[i]? = some (.row (.slice a m c) el k m cs)) (ht : P.underlying t = some (.slice el)) (hu : P.underlying u = some (.slice el2))
    (hti : ∀ w, (typeInfo el).run P w = .ok ti w) (hk : ti.size = k) (hby : ti.bytes = by') (hz : ti.zero = some z) (hzc : z.cells.size = k)
    (hx : rd n e x = .slice a m c) (hy : rd n e y = vy) (hsrc : ∀ w, St w0 D L w → Src P w k q vy news) (hb : (m + q) * by' ≤ 140737488355328) (hmax : m + q ≤ 9223372036854775807) (hn : m + q = n') (hc : cs ++ news = cs') :
    JO P n w0 D L e ⟨d, .call ⟨.builtin .append, #[x, y], #[t, u]⟩, ty, pos, aft, gd⟩ (fun v L' => ∃ a' c', v = .slice a' n' c' ∧ L' = L.set i (.row (.slice a' n' c') el k n' cs')) := by
  subst hn; subst hc
  exact JO.append i hL ht hu hti hk hby hz hzc hx hy hsrc hb hmax

end

theorem flat_takeN {α : Type} {enc : α → List Value} {k : Nat} (hk : ∀ x, (enc x).length = k) : ∀ (xs : List α) (i : Nat), (xs.flatMap enc).take (i * k) = (xs.take i).flatMap enc
  | [], i => by simp
  | x :: xs, 0 => by simp
  | x :: xs, i + 1 => by
    have e1 : (i + 1) * k = (enc x).length + i * k := by rw [hk, Nat.succ_mul, Nat.add_comm]
    rw [List.take_succ_cons, List.flatMap_cons, List.flatMap_cons, e1, List.take_length_add_append, flat_takeN hk xs i]
theorem flat_dropN {α : Type} {enc : α → List Value} {k : Nat} (hk : ∀ x, (enc x).length = k) : ∀ (xs : List α) (i : Nat), (xs.flatMap enc).drop (i * k) = (xs.drop i).flatMap enc
  | [], i => by simp
  | x :: xs, 0 => by simp
  | x :: xs, i + 1 => by
    have e1 : (i + 1) * k = (enc x).length + i * k := by rw [hk, Nat.succ_mul, Nat.add_comm]
    rw [List.drop_succ_cons, List.flatMap_cons, e1, List.drop_length_add_append, flat_dropN hk xs i]
theorem mapS_flat (l : List Str) : l.map str = l.flatMap (fun s => [str s]) := by
  induction l with
  | nil => rfl
  | cons x l ih => rw [List.map_cons, List.flatMap_cons, ih]; rfl
theorem insC {s : List Cell} {i : Nat} {x : Cell} : (s.flatMap encC).take (i * 2) ++ [str x.1, str x.2] ++ (s.flatMap encC).drop (i * 2) = (insertAt i x s).flatMap encC := by
  rw [flat_takeN encC_len, flat_dropN encC_len]
  simp [insertAt, encC]
theorem insS {s : List Str} {i : Nat} {x : Str} : (s.map str).take (i * 1) ++ [str x] ++ (s.map str).drop (i * 1) = (insertAt i x s).map str := by
  simp [insertAt]
theorem subC {w : World} {a : Option Addr} {c : Nat} {s : List Cell} (h : Sees w (.slice a s.length c) 2 s.length (s.flatMap encC)) (lo hi : Nat) (h1 : lo ≤ hi) (h2 : hi ≤ s.length) : Sees w (.slice (subA 2 a c lo) (hi - lo) (c - lo)) 2 (hi - lo) (((s.drop lo).take (hi - lo)).flatMap encC) := by
  have := h.sub lo hi h1 h2
  rw [flat_dropN encC_len, flat_takeN encC_len] at this
  exact this
theorem subS {w : World} {a : Option Addr} {c : Nat} {s : List Str} (h : Sees w (.slice a s.length c) 1 s.length (s.map str)) (lo hi : Nat) (h1 : lo ≤ hi) (h2 : hi ≤ s.length) : Sees w (.slice (subA 1 a c lo) (hi - lo) (c - lo)) 1 (hi - lo) (((s.drop lo).take (hi - lo)).map str) := by
  have := h.sub lo hi h1 h2
  rw [← List.map_drop, ← List.map_take] at this
  simpa using this
theorem hiC {w : World} {a : Option Addr} {c : Nat} {s : List Cell} (h : Sees w (.slice a s.length c) 2 s.length (s.flatMap encC)) (hi : Nat) (h2 : hi ≤ s.length) : Sees w (.slice a hi c) 2 hi ((s.take hi).flatMap encC) := by
  have := h.hi hi h2
  rw [flat_takeN encC_len] at this
  exact this
theorem hiS {w : World} {a : Option Addr} {c : Nat} {s : List Str} (h : Sees w (.slice a s.length c) 1 s.length (s.map str)) (hi : Nat) (h2 : hi ≤ s.length) : Sees w (.slice a hi c) 1 hi ((s.take hi).map str) := by
  have := h.hi hi h2
  rw [← List.map_take] at this
  simpa using this
theorem ins_room {cs zs xs : List Value} {p k : Nat} (hp : p ≤ cs.length) (hz : zs.length = k) (hx : xs.length = k) :
    (((cs ++ zs).take (p + k) ++ cs.drop p ++ (cs ++ zs).drop (p + k + (cs.drop p).length)).take p ++ xs ++ ((cs ++ zs).take (p + k) ++ cs.drop p ++ (cs ++ zs).drop (p + k + (cs.drop p).length)).drop (p + xs.length)) = cs.take p ++ xs ++ cs.drop p := by
  have e1 : (cs ++ zs).drop (p + k + (cs.drop p).length) = [] := List.drop_of_length_le (by simp; omega)
  have e2 : ((cs ++ zs).take (p + k)).length = p + k := by simp; omega
  rw [e1, List.append_nil, List.take_append_of_le_length (by omega), List.take_take, Nat.min_eq_left (by omega), List.take_append_of_le_length hp, hx, List.drop_append, e2, Nat.sub_self, List.drop_zero, List.drop_of_length_le (by omega), List.nil_append]
theorem ins_grow {cs zs xs : List Value} {p k : Nat} (hp : p ≤ cs.length) (hz : zs.length = cs.length - p + k) (hx : xs.length = k) :
    (((cs.take p ++ zs).take p ++ xs ++ (cs.take p ++ zs).drop (p + xs.length)).take (p + k) ++ cs.drop p ++ ((cs.take p ++ zs).take p ++ xs ++ (cs.take p ++ zs).drop (p + xs.length)).drop (p + k + (cs.drop p).length)) = cs.take p ++ xs ++ cs.drop p := by
  have e1 : (cs.take p).length = p := by simp; omega
  have e2 : (cs.take p ++ zs).take p = cs.take p := by rw [List.take_append_of_le_length (by omega), List.take_of_length_le (by omega)]
  have e3 : (cs.take p ++ xs).length = p + k := by simp; omega
  have e4 : ((cs.take p ++ zs).drop (p + xs.length)).length = cs.length - p := by simp; omega
  have e5 : (cs.take p ++ xs ++ (cs.take p ++ zs).drop (p + xs.length)).drop (p + k + (cs.drop p).length) = [] := List.drop_of_length_le (by rw [List.length_append, e3, e4, List.length_drop]; omega)
  rw [e2, e5, List.take_append_of_le_length (by omega), List.take_of_length_le (by omega), List.append_nil]
theorem sees_fits {w : World} {a : Option Addr} {k m m' c : Nat} {cs : List Value} (h : Sees w (.slice a m c) k m' cs) : m ≤ c ∧ c ≤ maxLen ∧ a.bind (·.spot) = none ∧ cs.length = m' * k := by
  obtain ⟨hl, h⟩ := h
  rcases h with ⟨hv, rfl⟩ | ⟨b, o, cap, hv, h1, h2, _⟩
  · simp only [Value.slice.injEq] at hv
    obtain ⟨rfl, rfl, rfl⟩ := hv
    exact ⟨Nat.le_refl _, Nat.zero_le _, rfl, hl⟩
  · simp only [Value.slice.injEq] at hv
    obtain ⟨rfl, rfl, rfl⟩ := hv
    exact ⟨h1, h2, rfl, hl⟩
theorem JO.appendMake' (j : Nat) {P : Program} {n : Nat} {w0 : World} {D : List Nat} {L : List Res} {e : Env} {d : Option Tmp} {ty : TypeId} {pos : String} {aft : Array Edge} {gd : Option (Nat × Bool)} {x y : Operand} {t u el k m c i r by' n' : Nat} {q kn : IntKind} {a : Option Addr} {cs : List Value} {ti : TypeInfo} {z : Value} (hL : L[j]? = some (.row (.slice a m c) el k m cs)) (ht : P.underlying t = some (.slice el)) (hu : P.underlying u = some (.int kn))
    (hti' : ∀ w, (typeInfo el).run P w = .ok ti w) (hk : ti.size = k) (hk0 : 0 < k) (hby : ti.bytes = by') (hz : ti.zero = some z) (hzc : z.cells.size = k) (hx : rd n e x = .slice a i c) (hy : rd n e y = .int q r) (hi : i ≤ m) (h0 : 0 < r) (hg : c < i + r) (hb : (i + r) * by' ≤ 140737488355328) (hb1 : 0 < by') (hn : i + r = n') :
    JO P n w0 D L e ⟨d, .call ⟨.builtin .append, #[x, y], #[t, u]⟩, ty, pos, aft, gd⟩ (fun v L' => ∃ a' c' zs, v = .slice a' n' c' ∧ n' ≤ c' ∧ zs.length = r * k ∧ L' = .row (.slice a' n' c') el k n' (cs.take (i * k) ++ zs) :: L) := by
  subst hn
  intro w hw K Q hK
  refine JO.appendMake j hL ht hu hti' hk hk0 hby hz hzc hx hy hi h0 hg hb hb1 w hw K Q fun v L' w' h hw' => hK v L' w' ?_ hw'
  obtain ⟨a', c', zs, h1, h2, _, _, h3, h4⟩ := h
  exact ⟨a', c', zs, h1, h2, h3, h4⟩
theorem Fst.mid {P : Program} {w : World} {k M i q c : Nat} {a : Option Addr} {X Y : List Value} (h : Sees w (.slice a M c) k M X) (hi : i ≤ M) (hq : q ≤ M - i) (hY : (X.drop (i * k)).take (q * k) = Y) : Fst P w k q (.slice (subA k a c i) (M - i) (c - i)) Y := by
  have h1 := Fst.sees (P := P) (h.sub i M hi (Nat.le_refl _)) hq
  rw [List.take_take, Nat.min_eq_left (Nat.mul_le_mul_right k hq), hY] at h1
  exact h1
theorem tail1 {cs : List Value} {m i k : Nat} (h : cs.length = m * k) : (cs.drop (i * k)).take ((m - i) * k) = cs.drop (i * k) :=
  List.take_of_length_le (by rw [List.length_drop, h, Nat.mul_comm m, Nat.mul_comm i, ← Nat.mul_sub, Nat.mul_comm k]; exact Nat.le_refl _)
theorem tail2 {cs zs : List Value} {m i k : Nat} (h : cs.length = m * k) (hi : i ≤ m) : ((cs ++ zs).drop (i * k)).take ((m - i) * k) = cs.drop (i * k) := by
  have h1 : i * k ≤ m * k := Nat.mul_le_mul_right k hi
  rw [List.drop_append_of_le_length (by omega), List.take_append_of_le_length (by rw [List.length_drop, h, Nat.mul_comm m, Nat.mul_comm i, ← Nat.mul_sub, Nat.mul_comm k]; exact Nat.le_refl _)]
  exact tail1 h
theorem ins_end {α : Type} {s : List α} {i : Nat} {x : α} (h : i = s.length) : insertAt i x s = s ++ [x] := by
  subst h
  simp [insertAt]
theorem sees_none {w : World} {k m m' c : Nat} {cs : List Value} (h : Sees w (.slice none m c) k m' cs) : m' = 0 := by
  rcases h.2 with ⟨_, h0⟩ | ⟨b, o, c', hv, _⟩
  · exact h0
  · simp at hv
theorem PO.eqNil {P : Program} {n : Nat} {e : Env} {d : Option Tmp} {ty : TypeId} {pos : String} {aft : Array Edge} {gd : Option (Nat × Bool)} {x y : Operand} {a : Option Addr} {m c : Nat} {t u el : TypeId} (ht : P.underlying t = some (.slice el)) (hx : rd n e x = .slice a m c) (hy : rd n e y = .slice none 0 0) :
    PO P n e ⟨d, .binOp .eql t x y u, ty, pos, aft, gd⟩ (.bool a.isNone) := fun w => by
  have h := run_equal_slice_nil (P := P) w t el a m c ht
  simp [execOp, hx, hy, eqGuard, binOp, h]
theorem JQ.nilrow (el k : Nat) {Q : Exit → Act → World → Prop} {x : Exit} {n : Nat} {w0 : World} {D : List Nat} {L : List Res} {e : Env} (h : JQ Q x n w0 D (.row (.slice none 0 0) el k 0 [] :: L) e) : JQ Q x n w0 D L e := fun w hw => by
  refine h w ⟨⟨fun r hr => ?_, ?_, ?_, hw.room, hw.glob⟩, hw.os, hw.tape, hw.output, hw.size, ?_, hw.keep⟩
  · rcases List.mem_cons.1 hr with rfl | hr
    · exact ⟨by simp, .inl ⟨rfl, rfl⟩⟩
    · exact hw.holds r hr
  · simpa [idsOf, Res.ids, Value.ownBlock] using hw.nodup
  · intro i hi
    exact hw.low i (by simpa [idsOf, Res.ids, Value.ownBlock] using hi)
  · intro i hi
    exact hw.fresh i (by simpa [idsOf, Res.ids, Value.ownBlock] using hi)
/-- The first place of which p holds, as IndexFunc tells it. -/
def idxI {α : Type} (p : α → Bool) (s : List α) : Int := if findAt p s < s.length then ((findAt p s : Nat) : Int) else -1
theorem idxI_found {α : Type} {p : α → Bool} {s : List α} {j : Nat} (d : α) (h : j < s.length) (hN : ∀ i, i < j → p (s.getD i d) = false) (hp : p (s.getD j d) = true) : idxI p s = ((j : Nat) : Int) := by
  have := findAt_eq p d s j h hN hp
  unfold idxI
  rw [this, if_pos h]
theorem idxI_none {α : Type} {p : α → Bool} {s : List α} {j : Nat} (d : α) (h : s.length ≤ j) (hN : ∀ i, i < j → p (s.getD i d) = false) : idxI p s = -1 := by
  have := findAt_none p d s (fun i hi => hN i (by omega))
  unfold idxI
  rw [this, if_neg (by omega)]
theorem idxI_lo {α : Type} (p : α → Bool) (s : List α) : (idxI p s = -1 ∧ findAt p s = s.length) ∨ (idxI p s = ((findAt p s : Nat) : Int) ∧ findAt p s < s.length) := by
  have := findAt_le p s
  unfold idxI
  split
  · exact .inr ⟨rfl, by assumption⟩
  · exact .inl ⟨rfl, by omega⟩
theorem notin_bk {v : Value} {kb t : Nat} {cs : List Value} (h : ∀ b, v.ownBlock = some b → b ≠ kb) : ∀ b, v.ownBlock = some b → b ∉ idsOf [bk kb t cs] := fun b hb hm => by
  simp only [idsOf, Res.ids, List.flatMap_cons, List.flatMap_nil, List.append_nil, List.mem_singleton] at hm
  exact h b hb hm
theorem St.apartO {w0 w : World} {D : List Nat} {L : List Res} (hw : St w0 D L w) (i j : Nat) (hij : Nat.beq i j = false) {v : Value} {t k m kb t' : Nat} {cs cs' : List Value} (hL : L[i]? = some (.row v t k m cs)) (hL' : L[j]? = some (bk kb t' cs')) : ∀ b, v.ownBlock = some b → b ≠ kb := fun b hb he => by
  subst he
  have hne : i ≠ j := fun h => by subst h; simp at hij
  have hnd' := (idsOf_perm (perm_erase i _ hL)).nodup_iff.1 hw.nodup
  rw [idsOf_cons, List.nodup_append] at hnd'
  have hmem : (bk b t' cs' : Res) ∈ L.eraseIdx i := by
    rw [List.mem_eraseIdx_iff_getElem?]
    exact ⟨j, fun h => hne h.symm, hL'⟩
  exact hnd'.2.2 b (by simp [Res.ids, hb]) b (mem_idsOf.2 ⟨_, hmem, by simp [Res.ids]⟩) rfl
theorem St.apartF {w0 w : World} {D : List Nat} {L : List Res} (hw : St w0 D L w) (j : Nat) {v : Value} {k m kb t' : Nat} {cs cs' : List Value} (hs : Sees w0 v k m cs) (hL' : L[j]? = some (bk kb t' cs')) (hD : kb ∉ D) : ∀ b, v.ownBlock = some b → b ≠ kb := fun b hb he => by
  subst he
  have h1 : b ∈ idsOf L := mem_idsOf.2 ⟨_, List.mem_of_getElem? hL', by simp [Res.ids]⟩
  have h2 : w0.heap.size ≤ b := (hw.fresh b h1).resolve_left hD
  rcases hs.2 with ⟨rfl, _⟩ | ⟨b', o, c, rfl, _, _, h3, _⟩
  · simp [Value.ownBlock] at hb
  · simp only [Value.ownBlock, Option.some.injEq] at hb
    omega
theorem fits_of {w0 : World} {D : List Nat} {L : List Res} (h : ∃ w, St w0 D L w) {i t k m m' c : Nat} {a : Option Addr} {cs : List Value} (hL : L[i]? = some (.row (.slice a m c) t k m' cs)) : m ≤ c ∧ c ≤ maxLen ∧ a.bind (·.spot) = none ∧ cs.length = m' * k := by
  obtain ⟨w, hw⟩ := h
  obtain ⟨hl, a', c', hv, h1, h2, h3, h4, _⟩ := row_form (hw.get hL)
  simp only [Value.slice.injEq] at hv
  obtain ⟨rfl, rfl, rfl⟩ := hv
  exact ⟨h2, h3, h4, hl⟩

end Go.Proofs.YtenfajgpdhgknaaGreatDoor

set_option linter.unusedSimpArgs false
set_option linter.unusedVariables false
set_option linter.unnecessarySimpa false
namespace Go.Proofs.YtenfajgpdhgknaaGreatDoor
open Go Go.RowKit

section
variable {α : Type} {p : α → Bool}
theorem del_start : ∀ {s : List α}, findAt p s < s.length → s.take (findAt p s) = (s.take (findAt p s + 1)).filter (fun c => !p c)
  | [], h => by simp at h
  | x :: l, h => by
    unfold findAt at h ⊢
    by_cases hx : p x = true
    · simp [hx]
    · simp only [hx] at h ⊢
      have ih := del_start (s := l) (by simpa using h)
      simp only [Bool.false_eq_true, if_false, List.take_succ_cons]
      rw [List.filter_cons_of_pos (by simp [hx]), ← ih]
theorem del_none : ∀ {s : List α}, findAt p s = s.length → s.filter (fun c => !p c) = s
  | [], _ => rfl
  | x :: l, h => by
    unfold findAt at h
    by_cases hx : p x = true
    · simp [hx] at h
    · simp only [hx, Bool.false_eq_true, if_false, List.length_cons, Nat.add_right_cancel_iff] at h
      rw [List.filter_cons_of_pos (by simp [hx]), del_none h]
variable {s X : List α} {i j : Nat} (d : α)
theorem getD_of_drop (h : X.drop j = s.drop j) : X.getD j d = s.getD j d := by
  have := congrArg (fun l => l[0]?) h
  simp only [List.getElem?_drop, Nat.add_zero] at this
  rw [List.getD_eq_getElem?_getD, List.getD_eq_getElem?_getD, this]
theorem drop_more (h : X.drop j = s.drop j) : X.drop (j + 1) = s.drop (j + 1) := by
  have := congrArg (fun l => l.drop 1) h
  simpa [List.drop_drop] using this
theorem del_skip (h : X.drop j = s.drop j) (hj : j < s.length) (hp : p (X.getD j d) = true) (hi : X.take i = (s.take j).filter (fun c => !p c)) : X.take i = (s.take (j + 1)).filter (fun c => !p c) := by
  rw [take_at (getD_some (d := d) hj), List.filter_append, ← hi, ← getD_of_drop d h, List.filter_cons_of_neg (by rw [hp]; simp), List.filter_nil, List.append_nil]
theorem del_keep (h : X.drop j = s.drop j) (hj : j < s.length) (hl : X.length = s.length) (hij : i < j) (hp : p (X.getD j d) = false) (hi : X.take i = (s.take j).filter (fun c => !p c)) : (X.set i (X.getD j d)).take (i + 1) = (s.take (j + 1)).filter (fun c => !p c) := by
  have hx : (X.set i (X.getD j d))[i]? = some (X.getD j d) := by rw [List.getElem?_set_self (by omega)]
  rw [take_at hx, take_at (getD_some (d := d) hj), List.filter_append, ← hi, List.take_set_of_le (Nat.le_refl i)]
  congr 1
  rw [← getD_of_drop d h, List.filter_cons_of_pos (by rw [hp]; rfl), List.filter_nil]
theorem del_keepD (h : X.drop j = s.drop j) (hij : i < j) (y : α) : (X.set i y).drop (j + 1) = s.drop (j + 1) := by
  rw [List.drop_set_of_lt (by omega)]
  exact drop_more h
theorem del_done (hj : s.length ≤ j) (hi : X.take i = (s.take j).filter (fun c => !p c)) : X.take i = s.filter (fun c => !p c) := by
  rw [hi, List.take_of_length_le hj]
theorem del_len (hl : X.length = s.length) (hi : i ≤ s.length) (h : X.take i = s.filter (fun c => !p c)) : (s.filter (fun c => !p c)).length = i := by
  rw [← h, List.length_take]; omega
end
theorem takeC {X : List Cell} {i : Nat} {zs : List Value} (h : i ≤ X.length) : ((X.flatMap encC).take (i * 2) ++ zs).take (i * 2) = (X.take i).flatMap encC := by
  have hl : ((X.flatMap encC).take (i * 2)).length = i * 2 := by rw [List.length_take, lenC]; omega
  rw [List.take_append_of_le_length (by omega), List.take_take, Nat.min_self, flat_takeN encC_len]
theorem takeS {X : List Str} {i : Nat} {zs : List Value} (h : i ≤ X.length) : ((X.map str).take (i * 1) ++ zs).take (i * 1) = (X.take i).map str := by
  have hl : ((X.map str).take (i * 1)).length = i * 1 := by rw [List.length_take, List.length_map]; omega
  rw [List.take_append_of_le_length (by omega), List.take_take, Nat.min_self, ← List.map_take, Nat.mul_one]
/-- A cut: what stands behind is told once, whatever way led there. -/
def Cut (n : Nat) (w0 : World) (D : List Nat) (I : Env → List Res → Prop) : Exit → Act → World → Prop := fun x a w => x = .normal ∧ ∃ e' L', a = act n e' ∧ St w0 D L' w ∧ I e' L'
section
variable {P : Program} {Q : Exit → Act → World → Prop} {n : Nat} {w0 : World} {D : List Nat} {L : List Res} {e : Env} {I : Env → List Res → Prop}
theorem NP.cut : NP (Cut n w0 D I) := fun c a w h => by cases h.1
theorem JQ.cut (h : I e L) : JQ (Cut n w0 D I) .normal n w0 D L e := fun _ hw => ⟨rfl, e, L, rfl, hw, h⟩
theorem JC.cut {c : Code} (I : Env → List Res → Prop) (h1 : JC P (Cut n w0 D I) n w0 D L c e) (h2 : ∀ e' L', I e' L' → JQ Q .normal n w0 D L' e') : JC P Q n w0 D L c e := fun w hw =>
  wp_mono (h1 w hw) fun x a w' hq => by
    obtain ⟨rfl, e', L', rfl, hst, hI⟩ := hq
    exact h2 e' L' hI w' hst
end
/- the same with what can be found left out -/
section
variable {P : Program} {ops : Array Oper} {Q : Exit → Act → World → Prop} {n : Nat} {w0 : World} {D : List Nat} {L M : List Res} {e : Env} {z fuel : Nat} {listed : Array Bool}
theorem JA.tk (i : Nat) {oi : Oper} {v : Value} (hi : ops[i]? = some oi) (hy : LO P n w0 D M e oi v) (h : JA P ops Q n w0 D M z fuel (listed.setIfInBounds i true) L (updO e oi.dst v))
    (hQ : NP Q := by repeat (first | with_reducible refine NP.th ?_ | with_reducible refine NP.bl ?_ | with_reducible exact NP.body | with_reducible exact NP.cut)) (hs : Region.noSelect ops = true := by kernel_rfl) (hz : lateB ops z i = true := by kernel_rfl) (hf : Region.free .any ops listed i = true := by kernel_rfl)
    (hr : (Region.ready .any ops listed).contains i = true := by kernel_rfl) (hg : oi.guard = none := by rfl) : JA P ops Q n w0 D M z (fuel + 1) listed L e := JA.take i hi hs hQ hz hf hr hg hy h
theorem JA.tkP (i : Nat) {oi : Oper} {v : Value} (hi : ops[i]? = some oi) (hy : PO P n e oi v) (h : JA P ops Q n w0 D M z fuel (listed.setIfInBounds i true) L (updO e oi.dst v))
    (hQ : NP Q := by repeat (first | with_reducible refine NP.th ?_ | with_reducible refine NP.bl ?_ | with_reducible exact NP.body | with_reducible exact NP.cut)) (hs : Region.noSelect ops = true := by kernel_rfl) (hf : Region.free .any ops listed i = true := by kernel_rfl)
    (hr : (Region.ready .any ops listed).contains i = true := by kernel_rfl) (hg : oi.guard = none := by rfl) : JA P ops Q n w0 D M z (fuel + 1) listed L e := JA.takeP i hi hs hQ hf hr hg hy h
theorem JA.on {i : Nat} (h : JX P ops Q n w0 D M z fuel listed L e i) (hr : Region.ready .any ops listed = [i] := by kernel_rfl) : JA P ops Q n w0 D M z (fuel + 1) listed L e := JA.one hr h
theorem JX.ls {i : Nat} {o : Oper} {Φ : Value → List Res → Prop} (hi : ops[i]? = some o) (ho : JO P n w0 D L e o Φ) (h : ∀ v L', Φ v L' → JQ Q .normal n w0 D L' (updO e o.dst v))
    (hg : o.guard = none := by rfl) (hiz : z ≤ i := by decide) (hr : Region.ready .any ops (listed.setIfInBounds i true) = [] := by kernel_rfl) : JX P ops Q n w0 D M z fuel listed L e i := JX.last hi hg hiz hr ho h
theorem JX.lt {i : Nat} {o : Oper} {Φ : Value → List Res → Prop} (hi : ops[i]? = some o) (ho : JO P n w0 D L e o Φ) (h : ∀ v L', Φ v L' → JA P ops Q n w0 D [] z fuel (listed.setIfInBounds i true) L' (updO e o.dst v))
    (hg : o.guard = none := by rfl) (hiz : z ≤ i := by decide) (hl : ((List.range listed.size).all fun k => Nat.ble z k || listed.getD k true) = true := by kernel_rfl) : JX P ops Q n w0 D M z fuel listed L e i := JX.late hi hg hiz hl ho h
theorem JL.o {o : Oper} {rest : List Oper} {Φ : Value → List Res → Prop} (ho : JO P n w0 D L e o Φ) (h : ∀ v L', Φ v L' → JL P ops Q n w0 D L' rest (updO e o.dst v)) (hg : o.guard = none := by rfl) : JL P ops Q n w0 D L (o :: rest) e := JL.op hg ho h
theorem JL.pu {o : Oper} {rest : List Oper} {v : Value} (ho : PO P n e o v) (h : JL P ops Q n w0 D L rest (updO e o.dst v)) (hg : o.guard = none := by rfl) : JL P ops Q n w0 D L (o :: rest) e := JL.pure hg ho h
theorem JL.lo {o : Oper} {rest : List Oper} {v : Value} (ho : LO P n w0 D L e o v) (h : JL P ops Q n w0 D L rest (updO e o.dst v)) (hg : o.guard = none := by rfl) : JL P ops Q n w0 D L (o :: rest) e := JL.ld hg ho h
end
end Go.Proofs.YtenfajgpdhgknaaGreatDoor

set_option linter.unusedSimpArgs false
set_option linter.unusedVariables false
set_option linter.unnecessarySimpa false
namespace Go.Proofs.YtenfajgpdhgknaaGreatDoor
open Go Go.RowKit

theorem getKey_found {key : Str} : ∀ {s : List Cell}, findAt (fun c => decide (c.1 = key)) s < s.length → (s.getD (findAt (fun c => decide (c.1 = key)) s) c0).2 = getKey s key
  | [], h => by simp at h
  | c :: s, h => by
    unfold findAt at h ⊢
    unfold getKey
    by_cases hc : c.1 = key
    · simp [hc]
    · simp only [hc, decide_false, Bool.false_eq_true, if_false, List.length_cons] at h ⊢
      rw [List.getD_cons_succ]
      exact getKey_found (by omega)
theorem getKey_none {key : Str} : ∀ {s : List Cell}, findAt (fun c => decide (c.1 = key)) s = s.length → getKey s key = []
  | [], _ => rfl
  | c :: s, h => by
    unfold findAt at h
    unfold getKey
    by_cases hc : c.1 = key
    · simp [hc] at h
    · simp only [hc, decide_false, Bool.false_eq_true, if_false, List.length_cons, Nat.add_right_cancel_iff] at h ⊢
      exact getKey_none h
theorem keyOk_bad {key : Str} {j : Nat} (h : j < key.length) (hb : keyByte (key.getD j 0) = false) : keyOk key = false := by
  have : key.all keyByte = false := by
    rw [List.all_eq_false]
    refine ⟨key.getD j 0, ?_, by rw [hb]; simp⟩
    rw [List.getD_eq_getElem?_getD, List.getElem?_eq_getElem h]
    exact List.getElem_mem h
  simp [keyOk, this]
theorem keyOk_good {key : Str} {j : Nat} (h : key.length ≤ j) (hb : ∀ i, i < j → i < key.length → keyByte (key.getD i 0) = true) : keyOk key = (decide (1 ≤ key.length) && decide (key.length ≤ 40)) := by
  have : key.all keyByte = true := by
    rw [List.all_eq_true]
    intro x hx
    obtain ⟨i, hi, rfl⟩ := List.getElem_of_mem hx
    have := hb i (by omega) hi
    rwa [List.getD_eq_getElem?_getD, List.getElem?_eq_getElem hi] at this
  simp [keyOk, this]
theorem addSpan_end {l : List Str} {x : Str} (h : findAt (fun y => geqB y x) l = l.length) : addSpan l x = l ++ [x] := by
  simp [addSpan, h]
theorem addSpan_same {l : List Str} {x : Str} (h : findAt (fun y => geqB y x) l < l.length) (he : l.getD (findAt (fun y => geqB y x) l) [] = x) : addSpan l x = l := by
  unfold addSpan
  simp only [h, if_true, he]
theorem addSpan_ins {l : List Str} {x : Str} (h : findAt (fun y => geqB y x) l < l.length) (he : ¬ l.getD (findAt (fun y => geqB y x) l) [] = x) : addSpan l x = insertAt (findAt (fun y => geqB y x) l) x l := by
  unfold addSpan
  simp only [h, if_true, he, if_false]
theorem addSpan_len (l : List Str) (x : Str) : l.length ≤ (addSpan l x).length ∧ (addSpan l x).length ≤ l.length + 1 := by
  unfold addSpan
  have h := findAt_le (fun y => geqB y x) l
  simp only
  split
  · split
    · omega
    · rw [insertAt_length _ _ _ h]; omega
  · simp
theorem putKey_bad1 {s : List Cell} {key val : Str} (h : keyOk key = false) : putKey s key val = s := by simp [putKey, h]
theorem putKey_bad2 {s : List Cell} {key val : Str} (h : 60 < val.length) : putKey s key val = s := by simp [putKey, h]
theorem putKey_nil {s : List Cell} {key val : Str} (h : keyOk key = true) (h2 : ¬ 60 < val.length) (hv : val = []) : putKey s key val = s.filter (fun c => !decide (c.1 = key)) := by
  unfold putKey
  rw [if_neg (by simp [h]; omega)]
  simp only [hv, if_true]
theorem putKey_ins {s : List Cell} {key val : Str} (h : keyOk key = true) (h2 : ¬ 60 < val.length) (hv : ¬ val = []) : putKey s key val = insertAt (findAt (fun c => gtrB c.1 key) (s.filter (fun c => !decide (c.1 = key)))) (key, val) (s.filter (fun c => !decide (c.1 = key))) := by
  unfold putKey
  rw [if_neg (by simp [h]; omega)]
  simp only [hv, if_false]
theorem putKey_len (s : List Cell) (key val : Str) : (putKey s key val).length ≤ s.length + 1 := by
  have h1 : (s.filter (fun c => !decide (c.1 = key))).length ≤ s.length := List.length_filter_le _ _
  unfold putKey
  simp only
  split
  · omega
  · split
    · omega
    · rw [insertAt_length _ _ _ (findAt_le _ _)]; omega
theorem look_len (m : MS) (key : Str) : (m.look key).1.s.length = m.s.length ∧ (m.look key).1.r.length ≤ m.r.length + 1 ∧ (m.look key).1.w.length = m.w.length := ⟨rfl, (addSpan_len _ _).2, rfl⟩
theorem lay_len (m : MS) (key val : Str) : (m.lay key val).s.length ≤ m.s.length + 1 ∧ (m.lay key val).r.length = m.r.length ∧ (m.lay key val).w.length ≤ m.w.length + 1 := ⟨putKey_len _ _ _, rfl, (addSpan_len _ _).2⟩
theorem num_len (m : MS) (key : Str) : (m.num key).1.s.length = m.s.length ∧ (m.num key).1.r.length ≤ m.r.length + 1 ∧ (m.num key).1.w.length = m.w.length := look_len m key
theorem setNum_len (m : MS) (key : Str) (n : Int) : (m.setNum key n).s.length ≤ m.s.length + 1 ∧ (m.setNum key n).r.length = m.r.length ∧ (m.setNum key n).w.length ≤ m.w.length + 1 := lay_len m key _
theorem bump_len (m : MS) (key : Str) : (m.bump key).1.s.length ≤ m.s.length + 1 ∧ (m.bump key).1.r.length ≤ m.r.length + 1 ∧ (m.bump key).1.w.length ≤ m.w.length + 1 := by
  have h1 := num_len m key
  unfold MS.bump
  split
  · dsimp only
    exact ⟨by omega, by omega, by omega⟩
  · have h2 := setNum_len (m.num key).1 key ((m.num key).2 + 1)
    dsimp only
    exact ⟨by omega, by omega, by omega⟩
theorem readDec_lo (t : Str) : 0 ≤ (readDec t).1 ∧ (readDec t).1 ≤ 1000000000 := by
  unfold readDec
  split
  · split <;> simp_all
  · simp
theorem numOf_lo (t : Str) : 0 ≤ numOf t ∧ numOf t ≤ 999 := by
  have := readDec_lo t
  unfold numOf
  split <;> omega
theorem readDec_err {t : Str} (h : ∀ n, Lib.atoiAll t ≠ .ok n) : readDec t = (0, false) := by
  unfold readDec
  split
  · rename_i n hn
    exact absurd hn (h n)
  · rfl
theorem readDec_ok {t : Str} {n : Int} (h : Lib.atoiAll t = .ok n) : readDec t = if 0 ≤ n ∧ n ≤ 1000000000 ∧ dec n = t then (n, true) else (0, false) := by
  unfold readDec
  rw [h]

section
variable {P : Program} {n : Nat} {e : Env} {d : Option Tmp} {ty : TypeId} {pos : String} {aft : Array Edge} {gd : Option (Nat × Bool)} {x : Operand} {t u : TypeId} {ms : Array (String × TypeId)} {te : TypeId} {pe : Value}
theorem meth_of (ht : P.underlying t = some (.interface ms)) : P.underlying t = some (.interface (P.methodsAt t)) := by
  have : P.methodsAt t = ms := by simp [Program.methodsAt, ht]
  rw [this]; exact ht
theorem PO.eqlIfN (ht : P.underlying t = some (.interface ms)) (hx : rd n e x = .nilIface) (_ : rd n e (.const .nilIface) = .nilIface) : PO P n e ⟨d, .binOp .eql t x (.const .nilIface) u, ty, pos, aft, gd⟩ (.bool true) := fun w => by
  have h := run_eql_nil_nil (P := P) w t (meth_of ht)
  have hy : rd n e (.const .nilIface) = .nilIface := rfl
  simp only [execOp, hx, hy, eqGuard_nil_constR, Sem.run_bind, Sem.run_pure, Result.andThen_ok, h]
theorem PO.neqIfN (ht : P.underlying t = some (.interface ms)) (hx : rd n e x = .nilIface) (_ : rd n e (.const .nilIface) = .nilIface) : PO P n e ⟨d, .binOp .neq t x (.const .nilIface) u, ty, pos, aft, gd⟩ (.bool false) := fun w => by
  have h := run_neq_nil_nil (P := P) w t (meth_of ht)
  have hy : rd n e (.const .nilIface) = .nilIface := rfl
  simp only [execOp, hx, hy, eqGuard_nil_constR, Sem.run_bind, Sem.run_pure, Result.andThen_ok, h]
theorem PO.eqlIfS (ht : P.underlying t = some (.interface ms)) (hx : rd n e x = .iface te pe) (_ : rd n e (.const .nilIface) = .nilIface) : PO P n e ⟨d, .binOp .eql t x (.const .nilIface) u, ty, pos, aft, gd⟩ (.bool false) := fun w => by
  have h := run_eql_held_nil (P := P) w t te pe (meth_of ht)
  have hy : rd n e (.const .nilIface) = .nilIface := rfl
  simp only [execOp, hx, hy, eqGuard_at_iface, Sem.run_bind, Sem.run_pure, Result.andThen_ok, h]
theorem PO.neqIfS (ht : P.underlying t = some (.interface ms)) (hx : rd n e x = .iface te pe) (_ : rd n e (.const .nilIface) = .nilIface) : PO P n e ⟨d, .binOp .neq t x (.const .nilIface) u, ty, pos, aft, gd⟩ (.bool true) := fun w => by
  have h := run_neq_held_nil (P := P) w t te pe (meth_of ht)
  have hy : rd n e (.const .nilIface) = .nilIface := rfl
  simp only [execOp, hx, hy, eqGuard_at_iface, Sem.run_bind, Sem.run_pure, Result.andThen_ok, h]
end
end Go.Proofs.YtenfajgpdhgknaaGreatDoor

set_option linter.unusedSimpArgs false
set_option linter.unusedVariables false
set_option linter.unnecessarySimpa false
namespace Go.Proofs.YtenfajgpdhgknaaGreatDoor
open Go Go.RowKit

theorem sees_nil {w : World} (k : Nat) : Sees w (.slice none 0 0) k 0 [] := ⟨by simp, .inl ⟨rfl, rfl⟩⟩
/-- What the reference's PutKey lays behind what it has. -/
def putL (key val : Str) : Bool → List Cell → List Cell
  | d, [] => if d then [] else [(key, val)]
  | d, c :: s => (if !d && gtrB c.1 key then [(key, val)] else []) ++ ((if c.1 = key then [] else [c]) ++ putL key val (d || gtrB c.1 key) s)
theorem putL_step {s : List Cell} {key val : Str} {d : Bool} {j : Nat} (h : j < s.length) : putL key val d (s.drop j) = (if !d && gtrB (s.getD j c0).1 key then [(key, val)] else []) ++ ((if (s.getD j c0).1 = key then [] else [s.getD j c0]) ++ putL key val (d || gtrB (s.getD j c0).1 key) (s.drop (j + 1))) := by
  rw [drop_at (getD_some (d := c0) h), putL]
theorem putL_true (key val : Str) : ∀ s : List Cell, putL key val true s = s.filter (fun c => !decide (c.1 = key))
  | [] => rfl
  | c :: s => by
    have ih := putL_true key val s
    by_cases hc : c.1 = key
    · simp [putL, hc, ih]
    · simp [putL, hc, ih]
theorem gtr_ne {a b : Str} (h : gtrB a b = true) : ¬ a = b := by
  intro e
  subst e
  simp [gtrB] at h
theorem putL_false (key val : Str) : ∀ s : List Cell, putL key val false s = insertAt (findAt (fun c => gtrB c.1 key) (s.filter (fun c => !decide (c.1 = key)))) (key, val) (s.filter (fun c => !decide (c.1 = key)))
  | [] => rfl
  | c :: s => by
    have ih := putL_false key val s
    cases hg : gtrB c.1 key with
    | true =>
      have hc := gtr_ne hg
      rw [List.filter_cons_of_pos (by simp [hc])]
      simp only [putL, hg, Bool.not_false, Bool.true_and, if_true, hc, if_false, Bool.false_or, putL_true, findAt]
      rfl
    | false =>
      by_cases hc : c.1 = key
      · rw [List.filter_cons_of_neg (by simp [hc]), ← ih]
        have hg' : gtrB key key = false := hc ▸ hg
        simp only [putL, hg', Bool.not_false, Bool.true_and, Bool.false_eq_true, if_false, hc, if_true, List.nil_append, Bool.or_false]
      · rw [List.filter_cons_of_pos (by simp [hc])]
        simp only [putL, hg, Bool.not_false, Bool.true_and, Bool.false_eq_true, if_false, hc, List.nil_append, Bool.or_false, findAt, ih]
        rfl
theorem putL_put {s : List Cell} {key val : Str} (h : keyOk key = true) (h2 : ¬ 60 < val.length) : putL key val (decide (val = [])) s = putKey s key val := by
  by_cases hv : val = []
  · rw [putKey_nil h h2 hv, decide_eq_true hv, putL_true]
  · rw [putKey_ins h h2 hv, decide_eq_false hv, putL_false]

theorem addSpan_at {l : List Str} {x : Str} {j : Nat} (hlt : j < l.length) (hN : ∀ i, i < j → geqB (l.getD i []) x = false) (hge : geqB (l.getD j []) x = true) : findAt (fun y => geqB y x) l = j := findAt_eq _ [] l j hlt hN hge
theorem addSpan_put_same {l : List Str} {x : Str} {j : Nat} (hlt : j < l.length) (hN : ∀ i, i < j → geqB (l.getD i []) x = false) (hge : geqB (l.getD j []) x = true) (he : l.getD j [] = x) : addSpan l x = l := by
  have h := addSpan_at hlt hN hge
  exact addSpan_same (by rw [h]; exact hlt) (by rw [h]; exact he)
theorem addSpan_put_ins {l : List Str} {x : Str} {j : Nat} (hlt : j < l.length) (hN : ∀ i, i < j → geqB (l.getD i []) x = false) (hge : geqB (l.getD j []) x = true) (he : ¬ l.getD j [] = x) : l.take j ++ [x] ++ (l.drop j).take (l.length - j) = addSpan l x := by
  have h := addSpan_at hlt hN hge
  have e : (l.drop j).take (l.length - j) = l.drop j := List.take_of_length_le (by simp)
  rw [addSpan_ins (by rw [h]; exact hlt) (by rw [h]; exact he), h, e]
  simp [insertAt]
theorem addSpan_put_end {l : List Str} {x : Str} {j : Nat} (hle : l.length ≤ j) (hj : j ≤ l.length) (hN : ∀ i, i < j → geqB (l.getD i []) x = false) : l.take j ++ [x] ++ (l.drop j).take (l.length - j) = addSpan l x := by
  have h := findAt_none (fun y => geqB y x) [] l (fun i hi => hN i (by omega))
  rw [addSpan_end h, List.take_of_length_le hle, List.drop_of_length_le hle]
  simp

/-- The digits, the last one first in hand. -/
theorem mtAcc_app : ∀ (n k : Nat) (out : Str), k ≤ n → mtAcc k out = mtAcc k [] ++ out := by
  intro n
  induction n with
  | zero => intro k out h; rw [mtAcc_zero (by omega), mtAcc_zero (by omega)]; rfl
  | succ n ih =>
    intro k out h
    rcases Nat.eq_zero_or_pos k with h0 | h0
    · rw [mtAcc_zero h0, mtAcc_zero h0]; rfl
    · rw [← mtAcc_step h0, ← mtAcc_step h0 (out := []), ih _ _ (by omega), ih (k / 10) ([UInt8.ofNat (48 + k % 10)] ++ []) (by omega)]
      simp [List.append_assoc]
theorem mtAcc_dec : ∀ (n k : Nat), 0 < k → k ≤ n → mtAcc k [] = Lib.decDigits k := by
  intro n
  induction n with
  | zero => intro k h0 h; omega
  | succ n ih =>
    intro k h0 h
    rw [← mtAcc_step h0, mtAcc_app (k / 10) (k / 10) _ (Nat.le_refl _), Lib.decDigits]
    split
    · rename_i hk
      rw [mtAcc_zero (by omega), Nat.mod_eq_of_lt hk]; rfl
    · rw [ih (k / 10) (by omega) (by omega)]; simp
theorem dec_nat {k : Nat} (h : 0 < k) : dec ((k : Nat) : Int) = mtAcc k [] := by
  unfold dec Lib.itoa
  rw [if_neg (by omega), Int.toNat_natCast, mtAcc_dec k k h (Nat.le_refl _)]
theorem dec_zero : dec 0 = [48] := by
  unfold dec Lib.itoa
  rw [if_neg (by omega), show (0 : Int).toNat = 0 from rfl, Lib.decDigits, dif_pos (by omega)]; rfl
theorem decDigits_len : ∀ (n k : Nat), k ≤ n → (Lib.decDigits k).length = Lib.nDigits k := by
  intro n
  induction n with
  | zero => intro k h; rw [Lib.decDigits, Lib.nDigits, dif_pos (by omega), dif_pos (by omega)]; rfl
  | succ n ih =>
    intro k h
    rw [Lib.decDigits, Lib.nDigits]
    split
    · rfl
    · rw [List.length_append, ih (k / 10) (by omega)]; rfl
theorem dec_len {n : Int} (h0 : 0 ≤ n) (h1 : n ≤ 1000000000) : (dec n).length ≤ 10 := by
  obtain ⟨k, rfl⟩ := Int.eq_ofNat_of_zero_le h0
  unfold dec Lib.itoa
  rw [if_neg (by omega), Int.toNat_natCast, decDigits_len k k (Nat.le_refl _)]
  have : ∀ (d k : Nat), k < 10 ^ (d + 1) → Lib.nDigits k ≤ d + 1 := by
    intro d
    induction d with
    | zero => intro k hk; rw [Lib.nDigits_small (by simpa using hk)]; omega
    | succ d ih =>
      intro k hk
      by_cases hs : k < 10
      · rw [Lib.nDigits_small hs]; omega
      · rw [Lib.nDigits_big hs]
        have := ih (k / 10) (by rw [Nat.pow_succ] at hk; omega)
        omega
  exact this 9 k (by omega)
/-- The number that figures spell, as the reference adds it up; none where a byte is no figure. -/
def figs : Int → Str → Option Int
  | n, [] => some n
  | n, c :: t => if 48 ≤ c.toNat ∧ c.toNat ≤ 57 then figs (10 * n + (c.toNat : Int) - 48) t else none
theorem figs_step {t : Str} {n : Int} {j : Nat} (h : j < t.length) : figs n (t.drop j) = if 48 ≤ (t.getD j 0).toNat ∧ (t.getD j 0).toNat ≤ 57 then figs (10 * n + ((t.getD j 0).toNat : Int) - 48) (t.drop (j + 1)) else none := by
  rw [drop_at (getD_some (d := 0) h), figs]
theorem figs_parse : ∀ (t : Str) (acc : Nat), acc * 10 ^ t.length + 10 ^ t.length ≤ 1000000000000000000 → Lib.parseUint10 acc t = match figs acc t with | some n => .ok n.toNat | none => Lib.NumEnd.syntax
  | [], acc, _ => by simp [Lib.parseUint10, figs]
  | c :: t, acc, h => by
    have hp : 0 < 10 ^ t.length := Nat.pow_pos (by omega)
    rw [List.length_cons, Nat.pow_succ] at h
    by_cases hc : 48 ≤ c.toNat ∧ c.toNat ≤ 57
    · have hb : acc * 10 + 10 ≤ 1000000000000000000 := by
        have h1 : (acc * 10 + 10) * 1 ≤ (acc * 10 + 10) * 10 ^ t.length := Nat.mul_le_mul_left _ hp
        have h2 : (acc * 10 + 10) * 10 ^ t.length = acc * (10 ^ t.length * 10) + 10 ^ t.length * 10 := by rw [Nat.add_mul, Nat.mul_assoc, Nat.mul_comm 10 (10 ^ t.length)]
        omega
      have hs : ((acc * 10 + (c.toNat - 48) : Nat) : Int) = 10 * (acc : Int) + (c.toNat : Int) - 48 := by omega
      have ih := figs_parse t (acc * 10 + (c.toNat - 48)) (by
        have h1 : (acc * 10 + (c.toNat - 48)) * 10 ^ t.length ≤ (acc * 10 + 9) * 10 ^ t.length := Nat.mul_le_mul_right _ (by omega)
        have h2 : (acc * 10 + 9) * 10 ^ t.length + 10 ^ t.length = acc * (10 ^ t.length * 10) + 10 ^ t.length * 10 := by
          rw [← Nat.succ_mul, show (acc * 10 + 9).succ = acc * 10 + 10 from rfl, Nat.add_mul, Nat.mul_assoc, Nat.mul_comm 10 (10 ^ t.length)]
        omega)
      rw [Lib.parseUint10, if_pos hc, if_neg (by omega), if_neg (by omega), ih, hs, figs, if_pos hc]
    · rw [Lib.parseUint10, if_neg hc, figs, if_neg hc]
theorem figs_nonneg : ∀ (t : Str) (n m : Int), 0 ≤ n → figs n t = some m → 0 ≤ m
  | [], n, m, h, e => by simp only [figs, Option.some.injEq] at e; omega
  | c :: t, n, m, h, e => by
    unfold figs at e
    split at e
    · exact figs_nonneg t _ m (by omega) e
    · simp at e
theorem dec_head {n : Int} (h : 0 ≤ n) : ∃ c r, dec n = c :: r ∧ 48 ≤ c.toNat ∧ c.toNat ≤ 57 := by
  obtain ⟨k, rfl⟩ := Int.eq_ofNat_of_zero_le h
  unfold dec Lib.itoa
  rw [if_neg (by omega), Int.toNat_natCast]
  have : ∀ (n k : Nat), k ≤ n → ∃ c r, Lib.decDigits k = c :: r ∧ 48 ≤ c.toNat ∧ c.toNat ≤ 57 := by
    intro n
    induction n with
    | zero => intro k hk; rw [Lib.decDigits, dif_pos (by omega)]; exact ⟨_, _, rfl, by rw [UInt8.toNat_ofNat_of_lt' (by show _ < 256; omega)]; omega, by rw [UInt8.toNat_ofNat_of_lt' (by show _ < 256; omega)]; omega⟩
    | succ n ih =>
      intro k hk
      rw [Lib.decDigits]
      split
      · exact ⟨_, _, rfl, by rw [UInt8.toNat_ofNat_of_lt' (by show _ < 256; omega)]; omega, by rw [UInt8.toNat_ofNat_of_lt' (by show _ < 256; omega)]; omega⟩
      · obtain ⟨c, r, h1, h2, h3⟩ := ih (k / 10) (by omega)
        exact ⟨c, r ++ [UInt8.ofNat (48 + k % 10)], by rw [h1]; rfl, h2, h3⟩
  exact this k k (Nat.le_refl _)
/-- A text of at most ten bytes: what Atoi says of it, where it begins with a figure. -/
theorem atoi_figs {t : Str} {c : UInt8} {r : Str} (hc : t = c :: r) (h1 : 48 ≤ c.toNat) (h2 : c.toNat ≤ 57) (hl : t.length ≤ 10) : Lib.atoiAll t = match figs 0 t with | some n => .ok n | none => Lib.NumEnd.syntax := by
  have hlen : t.length ≤ 10 := hl
  have hpow : 10 ^ t.length ≤ 10 ^ 10 := Nat.pow_le_pow_right (by omega) hl
  have hp := figs_parse t 0 (by omega)
  subst hc
  unfold Lib.atoiAll
  simp only
  rw [if_neg (by omega)]
  unfold Lib.parseMag
  rw [if_neg (by simp), hp]
  cases hf : figs ((0 : Nat) : Int) (c :: r) with
  | none =>
    rfl
  | some n =>
    have hn := figs_nonneg _ _ _ (by omega) hf
    have hlt : Lib.parseUint10 0 (c :: r) = .ok n.toNat := by rw [hp, hf]
    have hb : n.toNat < 9223372036854775808 := by
      have key : ∀ (t : Str) (a : Nat) (u : Int), figs (a : Int) t = some u → u < ((a * 10 ^ t.length + 10 ^ t.length : Nat) : Int) := by
        intro t
        induction t with
        | nil => intro a u e; simp only [figs, Option.some.injEq] at e; subst e; simp; omega
        | cons d t ih =>
          intro a u e
          unfold figs at e
          split at e
          · rename_i hd
            have hs : ((a * 10 + (d.toNat - 48) : Nat) : Int) = 10 * (a : Int) + (d.toNat : Int) - 48 := by omega
            rw [← hs] at e
            have := ih _ _ e
            have h1 : (a * 10 + (d.toNat - 48)) * 10 ^ t.length ≤ (a * 10 + 9) * 10 ^ t.length := Nat.mul_le_mul_right _ (by omega)
            have h2 : (a * 10 + 9) * 10 ^ t.length + 10 ^ t.length = a * 10 ^ (t.length + 1) + 10 ^ (t.length + 1) := by
              rw [← Nat.succ_mul, show (a * 10 + 9).succ = a * 10 + 10 from rfl, Nat.add_mul, Nat.mul_assoc, Nat.mul_comm 10 (10 ^ t.length), Nat.pow_succ]
            rw [List.length_cons]
            omega
          · simp at e
      have := key _ _ _ hf
      omega
    simp only
    rw [if_neg (by omega), if_neg (by omega), if_neg (by omega), Int.toNat_of_nonneg hn]
theorem readDec_long {t : Str} (h : 10 < t.length) : readDec t = (0, false) := by
  unfold readDec
  split
  · rename_i n hn
    split
    · rename_i hc
      have := dec_len hc.1 hc.2.1
      rw [hc.2.2] at this
      omega
    · rfl
  · rfl
theorem readDec_figs {t : Str} (hl : t.length ≤ 10) : readDec t = match figs 0 t with | some n => if n ≤ 1000000000 ∧ dec n = t then (n, true) else (0, false) | none => (0, false) := by
  cases t with
  | nil =>
    have h0 : ¬ dec 0 = [] := by rw [dec_zero]; simp
    simp [readDec, Lib.atoiAll, figs, h0]
  | cons c r =>
    by_cases hc : 48 ≤ c.toNat ∧ c.toNat ≤ 57
    · have ha := atoi_figs (t := c :: r) rfl hc.1 hc.2 hl
      unfold readDec
      rw [ha]
      cases hf : figs 0 (c :: r) with
      | none => rfl
      | some n =>
        have hn := figs_nonneg _ _ _ (by omega) hf
        simp only [hn, true_and]
    · have hf : figs 0 (c :: r) = none := by rw [figs, if_neg hc]
      rw [hf]
      unfold readDec
      split
      · split
        · rename_i n hn hq
          obtain ⟨c', r', h1, h2, h3⟩ := dec_head hq.1
          rw [hq.2.2] at h1
          simp only [List.cons.injEq] at h1
          obtain ⟨rfl, _⟩ := h1
          exact absurd ⟨h2, h3⟩ hc
        · rfl
      · rfl
theorem readDec_no {t : Str} (h : (readDec t).2 = false) : (readDec t).1 = 0 := by
  unfold readDec at h ⊢
  split
  · rename_i n hn
    rw [hn] at h
    simp only at h
    split
    · rename_i hc; rw [if_pos hc] at h; simp at h
    · rfl
  · rfl
theorem foldl_len (l : List Str) : ∀ (d : List Str), (l.foldl addSpan d).length ≤ d.length + l.length := by
  induction l with
  | nil => intro d; simp
  | cons x l ih =>
    intro d
    have h1 := ih (addSpan d x)
    have h2 := (addSpan_len d x).2
    simp only [List.foldl_cons, List.length_cons]
    omega
end Go.Proofs.YtenfajgpdhgknaaGreatDoor

set_option linter.unusedSimpArgs false
set_option linter.unusedVariables false
set_option linter.unnecessarySimpa false
namespace Go.Proofs.YtenfajgpdhgknaaGreatDoor
open Go Go.RowKit Go.ChangeShapes Go.WideShapes Go.ChangeAt

theorem list_of {α : Type} (d : α) {p : Nat → α → Prop} : ∀ n, (∀ i, i < n → ∃ s, p i s) → ∃ l : List α, l.length = n ∧ ∀ i, i < n → p i (l.getD i d)
  | 0, _ => ⟨[], rfl, fun i hi => absurd hi (Nat.not_lt_zero i)⟩
  | n + 1, h => by
    obtain ⟨l, hl, hp⟩ := list_of d n (fun i hi => h i (by omega))
    obtain ⟨s, hs⟩ := h n (by omega)
    refine ⟨l ++ [s], by simp [hl], fun i hi => ?_⟩
    by_cases hin : i < n
    · have : (l ++ [s]).getD i d = l.getD i d := by
        rw [List.getD_eq_getElem?_getD, List.getD_eq_getElem?_getD, List.getElem?_append_left (by omega)]
      rw [this]; exact hp i hin
    · have hi' : i = l.length := by omega
      have : (l ++ [s]).getD i d = s := by subst hi'; simp
      rw [this]
      have : i = n := by omega
      subst this
      exact hs

section
variable {H : Type} {enc : TypeId × Value → H} {P : Program} {w : World} {base : Nat} {sp : Nat → Bool} {hd : Bool}

theorem trod_str {e fuel : Nat} {cs : List Value} {x : DataW H × List MemPlace} (he : P.underlying e = some .string) (h : DataW.trod enc P w base sp hd fuel e cs = some x) : ∃ s : Str, cs = [str s] ∧ s.length ≤ maxLen := by
  obtain ⟨s, rfl, _, hs⟩ := DataW.trod_string he h
  refine ⟨s.data.toList, by simp [str], ?_⟩
  have : s.size = s.data.toList.length := Array.length_toList.symm
  omega

theorem openS {t e fuel : Nat} {v : Value} {x : DataW H × List MemPlace} (ht : P.underlying t = some (.slice e)) (he : P.underlying e = some .string) (ce : P.cellsOf e = 1) (hsp : ∀ a n c, v = .slice (some a) n c → a.spot = none ∧ a.block < w.heap.size)
    (h : DataW.trod enc P w base sp hd fuel t [v] = some x) : ∃ a c, ∃ l : List Str, v = .slice a l.length c ∧ Sees w (.slice a l.length c) 1 l.length (l.map str) ∧ okS l := by
  rcases Deep.open_slice ht h with ⟨hv, _⟩ | ⟨a, len, cap, m, n, D, Pl, hv, hb, hl, hm, hmm, _, hc⟩
  · simp only [List.cons.injEq, and_true] at hv
    exact ⟨none, 0, [], hv, sees_nil 1, by simp [okS]⟩
  · simp only [List.cons.injEq, and_true] at hv
    obtain ⟨hs, hlt⟩ := hsp _ _ _ hv
    obtain ⟨b, o, s⟩ := a
    simp only at hs hlt
    subst hs
    have hle : len ≤ m := by rw [hmm]; split <;> omega
    obtain ⟨l, hll, hp⟩ := list_of (p := fun i s => w.cell? ⟨b, o + i, none⟩ = some (str s) ∧ s.length ≤ maxLen) ([] : Str) len (fun i hi => by
      obtain ⟨cs', h1, h2⟩ := hc i (by omega)
      obtain ⟨s, rfl, hs⟩ := trod_str he h2
      refine ⟨s, ?_, hs⟩
      rw [ce] at h1
      unfold World.cells? at h1
      split at h1
      · simp only [List.range_succ, List.range_zero, List.nil_append, List.mapM_cons, List.mapM_nil, Option.bind_eq_bind, Option.pure_def] at h1
        rw [add_lit, add_lit, Nat.mul_one, Nat.add_zero] at h1
        cases hq : w.cell? ⟨b, o + i, none⟩ with
        | none => rw [hq] at h1; simp at h1
        | some u => rw [hq] at h1; simp at h1; rw [h1]
      · cases h1)
    subst hll
    refine ⟨some ⟨b, o, none⟩, cap, l, hv, ⟨by simp, .inr ⟨b, o, cap, rfl, hl, hm, hlt, fun j u hj => ?_⟩⟩, by unfold maxLen at *; omega, fun j hj => by have := (hp j hj).2; unfold maxLen at this; omega⟩
    have hjl : j < l.length := by
      have := (List.getElem?_eq_some_iff.1 hj).1
      simpa using this
    rw [List.getElem?_map, getD_some (d := []) hjl] at hj
    simp only [Option.map_some, Option.some.injEq] at hj
    rw [← hj]
    exact (hp j hjl).1

theorem openC {t e fuel : Nat} {f0 f1 : Field} {v : Value} {x : DataW H × List MemPlace} (ht : P.underlying t = some (.slice e)) (he : P.underlying e = some (.struct #[f0, f1])) (ce : P.cellsOf e = 2) (o0 : f0.offset = 0) (o1 : f1.offset = 1) (c0' : P.cellsOf f0.type = 1) (c1' : P.cellsOf f1.type = 1)
    (s0 : P.underlying f0.type = some .string) (s1 : P.underlying f1.type = some .string) (hsp : ∀ a n c, v = .slice (some a) n c → a.spot = none ∧ a.block < w.heap.size)
    (h : DataW.trod enc P w base sp hd fuel t [v] = some x) : ∃ a c, ∃ l : List Cell, v = .slice a l.length c ∧ Sees w (.slice a l.length c) 2 l.length (l.flatMap encC) ∧ okC l := by
  rcases Deep.open_slice_pairs ht he ce o0 o1 c0' c1' h with ⟨hv, _⟩ | ⟨a, len, cap, m, n, V0, V1, D0, D1, P0, P1, hv, hb, hl, hm, hmm, _, hc⟩
  · simp only [List.cons.injEq, and_true] at hv
    exact ⟨none, 0, [], hv, sees_nil 2, by simp [okC]⟩
  · simp only [List.cons.injEq, and_true] at hv
    obtain ⟨hs, hlt⟩ := hsp _ _ _ hv
    obtain ⟨b, o, s⟩ := a
    simp only at hs hlt
    subst hs
    have hle : len ≤ m := by rw [hmm]; split <;> omega
    obtain ⟨l, hll, hp⟩ := list_of (p := fun i (s : Cell) => w.cell? ⟨b, o + i * 2, none⟩ = some (str s.1) ∧ w.cell? ⟨b, o + (i * 2 + 1), none⟩ = some (str s.2) ∧ s.1.length ≤ maxLen ∧ s.2.length ≤ maxLen) c0 len (fun i hi => by
      obtain ⟨h1, h2, h3, h4⟩ := hc i (by omega)
      obtain ⟨k, hk, hkl⟩ := trod_str s0 h3
      obtain ⟨u, hu, hul⟩ := trod_str s1 h4
      simp only [List.cons.injEq, and_true] at hk hu
      rw [add_lit, hk] at h1
      rw [add_lit, hu] at h2
      exact ⟨(k, u), h1, h2, hkl, hul⟩)
    subst hll
    refine ⟨some ⟨b, o, none⟩, cap, l, hv, ⟨lenC l, .inr ⟨b, o, cap, rfl, hl, hm, hlt, fun j u hj => ?_⟩⟩, by unfold maxLen at *; omega, fun j hj => by have := (hp j hj).2.2; unfold maxLen at this; omega⟩
    have hjl : j < l.length * 2 := by
      have := (List.getElem?_eq_some_iff.1 hj).1
      rwa [lenC] at this
    obtain ⟨q, hq⟩ : ∃ q, j = q * 2 ∨ j = q * 2 + 1 := ⟨j / 2, by omega⟩
    rcases hq with rfl | rfl
    · rw [atC1 (by omega)] at hj
      simp only [Option.some.injEq] at hj
      rw [← hj]
      exact (hp q (by omega)).1
    · rw [atC2 (by omega)] at hj
      simp only [Option.some.injEq] at hj
      rw [← hj]
      exact (hp q (by omega)).2.1
end

/-- What is known of the addresses of slices that come in. -/
theorem spot_of {P : Program} {w : World} {t e : TypeId} {v : Value} {b0 : Nat} {r : Reach} (ht : P.underlying t = some (.slice e)) (h : Cell.okWide P w r b0 t v) : ∀ a n c, v = .slice (some a) n c → a.spot = none ∧ a.block < w.heap.size := fun a n c hv => by
  subst hv
  have h1 : Cell.ok P w r b0 t (.slice (some a) n c) := by
    unfold Cell.okWide at h
    rw [ht] at h
    exact h
  unfold Cell.ok at h1
  rw [ht] at h1
  obtain ⟨_, _, _, hs, row, cells, hsh, _⟩ := h1
  refine ⟨hs, ?_⟩
  unfold World.shape? at hsh
  cases hg : w.heap[a.block]? with
  | none => rw [hg] at hsh; cases hsh
  | some o => exact (Array.getElem?_eq_some_iff.1 hg).1
end Go.Proofs.YtenfajgpdhgknaaGreatDoor

set_option linter.unusedSimpArgs false
set_option linter.unusedVariables false
set_option linter.unnecessarySimpa false
namespace Go.Proofs.YtenfajgpdhgknaaGreatDoor
open Go Go.RowKit Go.ChangeShapes Go.WideShapes Go.ChangeAt

theorem post_below {H : Type} {enc : TypeId × Value → H} {P : Program} {f : Func} {s : ChangeSpec} {apart fresh handsOn again : Bool} {W W' : World} {args : Array Value} {v : Value} {ds gs : List (DataW H)} {before pa pv : List MemPlace}
    (hW : DataW.Whole enc P f.params.toList s.vars apart W args.toList ds gs before)
    (hres : ∀ (b : Nat) (sp : Nat → Bool) (hd : Bool), DataW.TrodAll enc P W' b sp hd f.resultTypes.toList (v.resultList f.resultTypes.size) (s.fn H (ds ++ gs)).results [])
    (hargs : ∀ sp : Nat → Bool, (∀ p ∈ before, sp p.block = true) → DataW.TrodAll enc P W' 0 sp true f.params.toList args.toList (s.fn H (ds ++ gs)).args pa)
    (hvars : ∀ sp : Nat → Bool, (∀ p ∈ before, sp p.block = true) → DataW.TrodVars enc P W' sp s.vars (s.fn H (ds ++ gs)).vars pv)
    (hps : before = pa ++ pv) (hb : Below W.heap.size W W')
    (hok : ∀ (j : Nat) (t : TypeId) (r : Value), f.resultTypes[j]? = some t → (v.resultList f.resultTypes.size)[j]? = some r → Value.okWide P W' .any 0 t r) :
    s.post enc P f apart fresh handsOn again W args v W' := by
  have hold : ∀ p ∈ before, (fun b => decide (b < W.heap.size)) p.block = true := fun p hp => by simpa using hW.lt p hp
  have hlt := hW.lt
  refine ⟨ds, gs, before, [], pa, pv, hW, hres _ _ _, hargs _ hold, hvars _ hold, hb.frame _, fun _ => ?_⟩
  obtain ⟨_, _, _, _, _, hz, hn⟩ := hW
  refine ⟨hok, _, _, ([] ++ pa) ++ pv, ⟨[] ++ pa, pv, trodAll_append (hargs _ (fun _ _ => rfl)) (hres _ _ _), hvars _ (fun _ _ => rfl), rfl, ?_, ?_⟩, ?_⟩
  · intro b off hp
    have hp' : MemPlace.cell b off ∈ before := by rw [hps]; simpa using hp
    rw [hb.frozen (hlt _ hp')]
    exact hz b off hp'
  · intro ha
    have := hn ha
    rw [hps] at this
    simpa using this
  · intro p hp _
    rw [hps]
    simpa using hp

theorem okRow {P : Program} {w : World} {r : Reach} {b t : Nat} {v : Value} {fs : Array Field} {ts : List TypeId} (ht : P.underlying t = some (.struct fs)) (hts : P.cellTypes P.depth t = some ts) (h : Value.okWide P w r b t v) :
    ∃ cs : Array Value, v = .agg cs ∧ cs.size = P.cellsOf t ∧ ∀ i u, cs[i]? = some u → ∃ q, ts[i % ts.length]? = some q ∧ Cell.okWide P w r b q u := by
  unfold Value.okWide at h
  rw [ht] at h
  obtain ⟨cs, rfl, hsz, ts', hts', _, hcell⟩ := h
  obtain rfl := Option.some.inj (hts.symm.trans hts')
  exact ⟨cs, rfl, hsz, hcell⟩
theorem three {cs : Array Value} (h : cs.size = 3) : ∃ x0 x1 x2, cs = #[x0, x1, x2] := by
  obtain ⟨l⟩ := cs
  match l, h with
  | [x0, x1, x2], _ => exact ⟨x0, x1, x2, rfl⟩
theorem openM {P : Program} {H : Type} {enc : TypeId × Value → H} {W : World} {base : Nat} {sp : Nat → Bool} {hd : Bool} {b0 : Nat} {r : Reach} {v : Value} {d : DataW H} {ps : List MemPlace} {tm tt tc tcs tss ts : TypeId} {f0 f1 g0 g1 k0 k1 : Field}
    (um : P.underlying tm = some (.struct #[f0, f1])) (ut : P.underlying tt = some (.struct #[g0, g1])) (uc : P.underlying tc = some (.struct #[k0, k1])) (ucs : P.underlying tcs = some (.slice tc)) (uss : P.underlying tss = some (.slice ts)) (us : P.underlying ts = some .string)
    (hf0 : f0.type = tcs ∧ f0.offset = 0) (hf1 : f1.type = tt ∧ f1.offset = 1) (hg0 : g0.type = tss ∧ g0.offset = 0) (hg1 : g1.type = tss ∧ g1.offset = 1) (hk0 : k0.type = ts ∧ k0.offset = 0) (hk1 : k1.type = ts ∧ k1.offset = 1)
    (cm : P.cellsOf tm = 3) (ct : P.cellsOf tt = 2) (cs' : P.cellsOf ts = 1) (cc : P.cellsOf tc = 2) (ccs : P.cellsOf tcs = 1) (css : P.cellsOf tss = 1) (hts : P.cellTypes P.depth tm = some [tcs, tss, tss])
    (hv : Value.okWide P W r b0 tm v) (h : DataW.Trod enc P W base sp hd tm v d ps) : ∃ a0 c0_ a1 c1 a2 c2, ∃ m : MS, v = .agg #[.slice a0 m.s.length c0_, .slice a1 m.r.length c1, .slice a2 m.w.length c2] ∧ Sees W (.slice a0 m.s.length c0_) 2 m.s.length (m.s.flatMap encC) ∧ Sees W (.slice a1 m.r.length c1) 1 m.r.length (m.r.map str) ∧
      Sees W (.slice a2 m.w.length c2) 1 m.w.length (m.w.map str) ∧ okC m.s ∧ okS m.r ∧ okS m.w := by
  obtain ⟨cs, rfl, hsz, hcell⟩ := okRow um hts hv
  obtain ⟨x0, x1, x2, rfl⟩ := three (hsz.trans cm)
  obtain ⟨q0, e0, j0⟩ := hcell 0 x0 rfl
  obtain ⟨q1, e1, j1⟩ := hcell 1 x1 rfl
  obtain ⟨q2, e2, j2⟩ := hcell 2 x2 rfl
  obtain rfl := Option.some.inj e0
  obtain rfl := Option.some.inj e1
  obtain rfl := Option.some.inj e2
  obtain ⟨fuel, hf⟩ := h
  obtain ⟨y0, y1, n, _, _, hA, hB⟩ := trod_struct2 um hf
  rw [hf0.1, hf0.2, ccs] at hA
  rw [hf1.1, hf1.2, ct] at hB
  obtain ⟨z0, z1, n', _, _, hC, hD⟩ := trod_struct2 ut hB
  rw [hg0.1, hg0.2, css] at hC
  rw [hg1.1, hg1.2, css] at hD
  obtain ⟨a0, c0_, s, rfl, hs, oks⟩ := openC ucs uc cc hk0.2 hk1.2 (by rw [hk0.1]; exact cs') (by rw [hk1.1]; exact cs') (by rw [hk0.1]; exact us) (by rw [hk1.1]; exact us) (spot_of ucs j0) hA
  obtain ⟨a1, c1, rr, rfl, hr, okr⟩ := openS uss us cs' (spot_of uss j1) hC
  obtain ⟨a2, c2, ww, rfl, hw, okw⟩ := openS uss us cs' (spot_of uss j2) hD
  exact ⟨a0, c0_, a1, c1, a2, c2, ⟨s, rr, ww⟩, rfl, hs, hr, hw, oks, okr, okw⟩

section
variable {H : Type} {enc : TypeId × Value → H} {W : World} {base : Nat} {sp : Nat → Bool} {hd : Bool}
theorem c1 : Tryz.prog.cellsOf 27 = 3 := by kernel_rfl
theorem c2 : Tryz.prog.cellsOf 25 = 2 := by kernel_rfl
theorem c3 : Tryz.prog.cellsOf 9 = 1 := by kernel_rfl
theorem c4 : Tryz.prog.cellsOf 143 = 2 := by kernel_rfl
theorem c5 : Tryz.prog.cellsOf 22 = 1 := by kernel_rfl
theorem c6 : Tryz.prog.cellsOf 23 = 1 := by kernel_rfl
theorem c7 : Tryz.prog.cellTypes Tryz.prog.depth 27 = some [22, 23, 23] := by kernel_rfl
attribute [local irreducible] Value.okWide DataW.Trod in
theorem open_mach {b0 : Nat} {r : Reach} {v : Value} {d : DataW H} {ps : List MemPlace} (hv : Value.okWide Tryz.prog W r b0 27 v) (h : DataW.Trod enc Tryz.prog W base sp hd 27 v d ps) :
    ∃ a0 c0_ a1 c1 a2 c2, ∃ m : MS, v = .agg #[.slice a0 m.s.length c0_, .slice a1 m.r.length c1, .slice a2 m.w.length c2] ∧ Sees W (.slice a0 m.s.length c0_) 2 m.s.length (m.s.flatMap encC) ∧ Sees W (.slice a1 m.r.length c1) 1 m.r.length (m.r.map str) ∧
      Sees W (.slice a2 m.w.length c2) 1 m.w.length (m.w.map str) ∧ okC m.s ∧ okS m.r ∧ okS m.w :=
  openM (P := Tryz.prog) (H := H) (enc := enc) (W := W) (base := base) (sp := sp) (hd := hd) (b0 := b0) (r := r) (v := v) (d := d) (ps := ps) (tm := 27) (tt := 25) (tc := 143) (tcs := 22) (tss := 23) (ts := 9) Tryz.underlying27 Tryz.underlying25
    Tryz.underlying143
    Tryz.underlying22
    Tryz.underlying23
    Tryz.underlying9
    ⟨rfl, rfl⟩ ⟨rfl, rfl⟩ ⟨rfl, rfl⟩ ⟨rfl, rfl⟩ ⟨rfl, rfl⟩ ⟨rfl, rfl⟩
    c1
    c2
    c3
    c4
    c5
    c6
    c7
    hv
    h
end
end Go.Proofs.YtenfajgpdhgknaaGreatDoor

set_option linter.unusedSimpArgs false
set_option linter.unusedVariables false
set_option linter.unnecessarySimpa false
namespace Go.Proofs.YtenfajgpdhgknaaGreatDoor
open Go Go.RowKit Go.ChangeShapes Go.WideShapes Go.ChangeAt

def OneLaid (P : Program) (w : World) (n : String) (d : DataW Unit) : Prop :=
  ∃ g t cs fuel p, P.globalNamed n = some g ∧ (P.globals[g]?).map (·.type) = some t ∧ w.var? P n = some cs ∧ DataW.trod (fun _ => ()) P w 0 (fun _ => true) false fuel t cs.toList = some (d, p)
section
variable {P : Program} {w : World}
theorem laidVars_get : ∀ {laid : List (String × DataW Unit)} {ps : List MemPlace} (_ : DataW.LaidVars P w laid ps) (i : Nat) {n : String} {d : DataW Unit}, laid[i]? = some (n, d) → OneLaid P w n d
  | [], _, _, i, n, d, hi => by simp at hi
  | (n', d') :: r, ps, h, 0, n, d, hi => by
    simp only [List.getElem?_cons_zero, Option.some.injEq, Prod.mk.injEq] at hi
    obtain ⟨rfl, rfl⟩ := hi
    obtain ⟨g, t, cs, f, p, _, a, b, e, h, _⟩ := h
    exact ⟨g, t, cs, f, p, a, b, e, h⟩
  | (n', d') :: r, ps, h, i + 1, n, d, hi => by
    obtain ⟨_, _, _, _, _, q, _, _, _, _, h2, _⟩ := h
    exact laidVars_get h2 i (by simpa using hi)
theorem laid_get {laid : List (String × DataW Unit)} (h : laidMet P laid w) (i : Nat) {n : String} {d : DataW Unit} (hi : laid[i]? = some (n, d)) : OneLaid P w n d := by
  obtain ⟨_, h, _⟩ := h
  exact laidVars_get h i hi
theorem OneLaid.tab {n : String} {k : IntKind} {zs : List Int} {g t e m : Nat} (h : OneLaid P w n (Lib.tabData k zs)) (hg : P.globalNamed n = some g) (hty : (P.globals[g]?).map (·.type) = some t) (ht : P.underlying t = some (.array m e)) (he : P.underlying e = some (.int k)) (hce : P.cellsOf e = 1) (hct : P.cellsOf t = m) : Lib.TabIs P w n k zs := by
  obtain ⟨g', t', cs, fuel, p, h1, h2, h3, h4⟩ := h
  obtain rfl := Option.some.inj (hg.symm.trans h1)
  obtain rfl := Option.some.inj (hty.symm.trans h2)
  unfold Lib.TabIs
  rw [h3, ← Lib.cells_of_tab ht he hce hct h4]
theorem OneLaid.iface {n s : String} {x : DataW Unit} {g t : Nat} {ms : Array (String × TypeId)} (h : OneLaid P w n (.iface s x)) (hg : P.globalNamed n = some g) (hty : (P.globals[g]?).map (·.type) = some t) (ht : P.underlying t = some (.interface ms)) : ∃ tp p, w.var? P n = some #[.iface tp p] := by
  obtain ⟨g', t', cs, fuel, p, h1, h2, h3, h4⟩ := h
  obtain rfl := Option.some.inj (hg.symm.trans h1)
  obtain rfl := Option.some.inj (hty.symm.trans h2)
  cases fuel with
  | zero => simp [DataW.trod] at h4
  | succ fuel =>
    unfold DataW.trod at h4
    rw [ht] at h4
    split at h4 <;> simp_all
    rename_i u v _ hcs
    exact ⟨u, v, Array.ext' hcs⟩
end
theorem laid_out : laidOutB Tryz.prog = true := by kernel_rfl
theorem own_godebug : ownKnob Tryz.prog.godebug = none := by kernel_rfl
def litsOf {H : Type} : DataW H → List Value
  | .agg ds => ds.map fun d => match d with | .lit (.int k n) => Value.int k n | _ => undef
  | _ => []
/-- Every package-level variable has its block. -/
theorem room_of {W : World} (h : W.ShapedOpen Tryz.prog) : GB ≤ W.heap.size := by
  have hr : (((begin Tryz.prog (fun _ _ => 0) default).world.heap[GB - 1]?).bind Obj.row?).isSome = true := by kernel_rfl
  cases hq : ((begin Tryz.prog (fun _ _ => 0) default).world.heap[GB - 1]?).bind Obj.row? with
  | none => rw [hq] at hr; cases hr
  | some x =>
    obtain ⟨zero, t⟩ := x
    obtain ⟨cs, hc, _⟩ := h.1 (GB - 1) zero t (by rw [show Tryz.prog.globals.size = GB from by kernel_rfl]; decide) hq
    have := (Array.getElem?_eq_some_iff.1 hc).1
    unfold GB at *
    omega
end Go.Proofs.YtenfajgpdhgknaaGreatDoor

set_option linter.unusedSimpArgs false
set_option linter.unusedVariables false
set_option linter.unnecessarySimpa false
namespace Go.Proofs.YtenfajgpdhgknaaGreatDoor
open Go Go.RowKit
attribute [local irreducible] JL JC JQ JO LO PO JA JX Ct

/-- What the laws find of their marks. -/
def heldS : List Str → Nat → Int
  | [], k => k
  | x :: l, k => if x = mt k then heldS l (k + 1) else -1
def heldC : List Cell → Nat → Int
  | [], k => k
  | x :: l, k => if x.1 = mt k then (if x.2 = mt (k + 1) then heldC l (k + 2) else -1) else -1
theorem heldS_mark : ∀ (l : List Str) (k : Nat), heldS (markS l k) k = ((k + l.length : Nat) : Int)
  | [], k => rfl
  | x :: l, k => by
    rw [markS, heldS, if_pos rfl, heldS_mark l (k + 1), List.length_cons]
    congr 1; omega
theorem heldC_mark : ∀ (l : List Cell) (k : Nat), heldC (markC l k) k = ((k + 2 * l.length : Nat) : Int)
  | [], k => rfl
  | x :: l, k => by
    rw [markC, heldC, if_pos rfl, if_pos rfl, heldC_mark l (k + 2), List.length_cons]
    congr 1; omega
theorem heldS_step {s : List Str} {j k : Nat} (h : j < s.length) : heldS (s.drop j) k = if s.getD j [] = mt k then heldS (s.drop (j + 1)) (k + 1) else -1 := by
  rw [drop_at (getD_some (d := []) h), heldS]
theorem heldC_step {s : List Cell} {j k : Nat} (h : j < s.length) : heldC (s.drop j) k = if (s.getD j c0).1 = mt k then (if (s.getD j c0).2 = mt (k + 1) then heldC (s.drop (j + 1)) (k + 2) else -1) else -1 := by
  rw [drop_at (getD_some (d := c0) h), heldC]
theorem markC_two {X : List Cell} {j : Nat} {a b v : Str} (h : j < X.length) : (X.set j (a, v)).set j (((X.set j (a, v)).getD j c0).1, b) = X.set j (a, b) := by
  have : (X.set j (a, v)).getD j c0 = (a, v) := by simp [h]
  rw [this, List.set_set]
theorem heldS_lo : ∀ (l : List Str) (k : Nat), -1 ≤ heldS l k ∧ heldS l k ≤ ((k + l.length : Nat) : Int)
  | [], k => by simp only [heldS, List.length_nil]; omega
  | x :: l, k => by
    have := heldS_lo l (k + 1)
    unfold heldS
    rw [List.length_cons]
    split <;> omega
theorem heldC_lo : ∀ (l : List Cell) (k : Nat), -1 ≤ heldC l k ∧ heldC l k ≤ ((k + 2 * l.length : Nat) : Int)
  | [], k => by simp only [heldC, List.length_nil]; omega
  | x :: l, k => by
    have := heldC_lo l (k + 2)
    unfold heldC
    rw [List.length_cons]
    split
    · split <;> omega
    · omega

theorem C_markText (k : Nat) (h0 : 0 < k) (h1 : k ≤ 100000000) :
    Ct Tryz.prog 244 [.int .i64 ((k : Nat) : Int)] [] (fun _ => True) (fun v A' => v = str (mt k) ∧ A' = []) := by
  refine Ct.intro Tryz.func244 rfl Tryz.ntmps244 (Nat.le_of_ble_eq_true rfl) fun w0 hpre => ?_
  refine JC.seq ?_
  refine JC.region ?_
  refine JL.pure rfl (PO.assign (v := str []) rfl) ?_
  refine JL.nil ?_
  refine JQ.seq ?_
  refine JC.seq ?_
  refine JC.seq ?_
  refine JC.region ?_
  refine JL.pure rfl (PO.move (v := .int .i64 ((k : Nat) : Int)) rfl) ?_
  refine JL.pure rfl (PO.leq rfl rfl) ?_
  refine JL.nil ?_
  refine JQ.seq ?_
  by_cases h_1 : ((k : Nat) : Int) ≤ 0
  · skip
    refine JC.condT (congrArg Value.bool (decide_eq_true h_1)) ?_
    refine JC.seq ?_
    refine JC.region ?_
    refine JL.pure rfl (PO.assign (v := str [109, 48]) rfl) ?_
    refine JL.nil ?_
    refine JQ.seq ?_
    refine JC.ret ?_
    refine JQ.thenRet ?_
    refine Done.one (.inl rfl) rfl (RV.tmp (v := str [109, 48]) rfl) (List.nil_sublist _) ?_
    (exfalso; omega)
  · skip
    refine JC.condF (congrArg Value.bool (decide_eq_false h_1)) ?_
    refine JC.skip ?_
    refine JQ.seq ?_
    refine JC.seq ?_
    refine JC.region ?_
    refine JL.pure rfl (PO.assign (v := str []) rfl) ?_
    refine JL.nil ?_
    refine JQ.seq ?_
    refine JC.seq ?_
    refine JC.block ?_
    refine JC.loop (fun k_ e_ L_ => ∃ k1 : Nat, ∃ out : Str, (k1 ≤ k) ∧ (out.length + k1 ≤ k) ∧ (mtAcc k1 out = mtAcc k []) ∧ e_ 0 = .int .i64 ((k1 : Nat) : Int) ∧ e_ 2 = str [] ∧ e_ 3 = str out ∧ L_ = [] ∧ k_ = k1 + 1) _ ⟨k, [], by omega, (by simp), rfl, rfl, rfl, rfl, rfl, rfl⟩ ?_
    rintro _ e_2 _ ⟨k1, out, hk, hl, hR, he_3, he_4, he_5, rfl, rfl⟩
    refine JC.seq ?_
    refine JC.seq ?_
    refine JC.region ?_
    refine JL.pure rfl (PO.move (v := .int .i64 ((k1 : Nat) : Int)) he_3) ?_
    refine JL.pure rfl (PO.gtr rfl rfl) ?_
    refine JL.nil ?_
    refine JQ.seq ?_
    by_cases h_6 : 0 < ((k1 : Nat) : Int)
    · skip
      have hk0 : 0 < k1 := by omega
      refine JC.condT (congrArg Value.bool (decide_eq_true h_6)) ?_
      refine JC.skip ?_
      refine JQ.seq ?_
      refine JC.block ?_
      refine JC.seq ?_
      refine JC.region ?_
      refine JL.pure rfl (PO.move (v := .int .i64 ((k1 : Nat) : Int)) he_3) ?_
      refine JL.pure rfl (PO.remN (c := ((k1 % 10 : Nat) : Int)) rfl rfl (by omega) (by omega) (by omega)) ?_
      refine JL.pure rfl (PO.add (c := ((48 + (k1 % 10) : Nat) : Int)) rfl rfl (wr (by omega))) ?_
      refine JL.pure rfl (PO.convI (c := ((48 + (k1 % 10) : Nat) : Int)) Tryz.underlying3 Tryz.underlying5 rfl (wr8 (by omega))) ?_
      refine JL.op rfl (JO.buildSlice (ps := [(0, .int .u8 ((48 + (k1 % 10) : Nat) : Int))]) (cur := #[.int .u8 ((48 + (k1 % 10) : Nat) : Int)]) Tryz.underlying44 Tryz.sizeOf5 Tryz.zeroValue5 rfl (by kernel_rfl) (by decide) (by decide)) ?_
      rintro _ _ ⟨a_7, rfl, rfl⟩
      refine JL.ld rfl (LO.toStr 0 [UInt8.ofNat (48 + (k1 % 10))] rfl Tryz.underlying44 Tryz.underlying5 Tryz.underlying9 rfl (by rw [List.map_cons, List.map_nil, encB_of _ (by omega)])) ?_
      refine JL.pure rfl (PO.move (v := str out) he_5) ?_
      refine JL.pure rfl (PO.addS rfl rfl (by (try simp only [List.length_append, List.length_cons, List.length_nil, List.length_drop, List.length_take]); omega)) ?_
      refine JL.pure rfl (PO.assign (v := str ([UInt8.ofNat (48 + (k1 % 10))] ++ out)) rfl) ?_
      refine JL.nil ?_
      refine JQ.seq ?_
      refine JC.region ?_
      refine JL.pure rfl (PO.move (v := .int .i64 ((k1 : Nat) : Int)) he_3) ?_
      refine JL.pure rfl (PO.quoN (c := ((k1 / 10 : Nat) : Int)) rfl rfl (by omega) (by omega) (by omega) (wr (by omega))) ?_
      refine JL.pure rfl (PO.assign (v := .int .i64 ((k1 / 10 : Nat) : Int)) rfl) ?_
      refine JL.nil ?_
      refine JQ.blockN ?_
      refine JQ.pick [] (A := []) rfl ?_
      refine JQ.again (k1 / 10 + 1) (by omega) ⟨(k1 / 10), [UInt8.ofNat (48 + (k1 % 10))] ++ out, by omega, (by simp only [List.length_append, List.length_cons, List.length_nil]; omega), (by rw [mtAcc_step hk0]; exact hR), rfl, he_4, rfl, rfl, rfl⟩
    · skip
      refine JC.condF (congrArg Value.bool (decide_eq_false h_6)) ?_
      refine JC.exit ?_
      refine JQ.thenExit ?_
      refine JQ.thenExit ?_
      refine JQ.blockE ?_
      refine JQ.seq ?_
      refine JC.seq ?_
      refine JC.region ?_
      refine JL.pure rfl (PO.move (v := str out) he_5) ?_
      refine JL.pure rfl (PO.addS rfl rfl (by (try simp only [List.length_append, List.length_cons, List.length_nil, List.length_drop, List.length_take]); omega)) ?_
      refine JL.pure rfl (PO.assign (v := str ([109] ++ out)) rfl) ?_
      refine JL.nil ?_
      refine JQ.seq ?_
      refine JC.ret ?_
      refine Done.one (.inl rfl) rfl (RV.tmp (v := str ([109] ++ out)) rfl) (List.nil_sublist _) ?_
      (refine ⟨?_, rfl⟩; rw [mt, ← hR, mtAcc_zero (by omega)]; rfl)

theorem C_markStringS (a : Option Addr) (c : Nat) (l : List Str) (k : Nat) (h0 : 0 < k) (h1 : k + l.length ≤ 100000000) :
    Ct Tryz.prog 245 [.slice a l.length c, .int .i64 ((k : Nat) : Int)] [Res.row (.slice a l.length c) 9 1 l.length (l.map str)] (fun _ => True) (fun v A' => v = .int .i64 ((k + l.length : Nat) : Int) ∧ A' = [.row (.slice a l.length c) 9 1 l.length ((markS l k).map str)]) := by
  refine Ct.intro Tryz.func245 rfl Tryz.ntmps245 (Nat.le_of_ble_eq_true rfl) fun w0 hpre => ?_
  refine JC.seq ?_
  refine JC.region ?_
  refine JL.pure rfl (PO.assign (v := .int .i64 0) rfl) ?_
  refine JL.nil ?_
  refine JQ.seq ?_
  refine JC.seq ?_
  refine JC.seq ?_
  refine JC.region ?_
  refine JL.pure rfl (PO.assign (v := .int .i64 0) rfl) ?_
  refine JL.nil ?_
  refine JQ.seq ?_
  refine JC.block ?_
  refine JC.loop (fun k_ e_ L_ => ∃ j : Nat, (j ≤ l.length) ∧ e_ 0 = .slice a l.length c ∧ e_ 1 = .int .i64 ((k + j : Nat) : Int) ∧ e_ 4 = .int .i64 0 ∧ e_ 5 = .int .i64 ((j : Nat) : Int) ∧ L_ = [Res.row (.slice a l.length c) 9 1 l.length (((markS l k).take j ++ l.drop j).map str)] ∧ k_ = l.length - j) _ ⟨0, by omega, rfl, rfl, rfl, rfl, rfl, rfl⟩ ?_
  rintro _ e_1 _ ⟨j, hj, he_2, he_3, he_4, he_5, rfl, rfl⟩
  refine JC.seq ?_
  refine JC.seq ?_
  refine JC.region ?_
  refine JL.pure rfl (PO.move (v := .int .i64 ((j : Nat) : Int)) he_5) ?_
  refine JL.pure rfl (PO.move (v := .slice a l.length c) he_2) ?_
  refine JL.pure rfl (PO.lenV Tryz.underlying23 rfl) ?_
  refine JL.pure rfl (PO.lss rfl rfl) ?_
  refine JL.nil ?_
  refine JQ.seq ?_
  by_cases h_6 : ((j : Nat) : Int) < ((l.length : Nat) : Int)
  · skip
    have hlt : j < l.length := by omega
    refine JC.condT (congrArg Value.bool (decide_eq_true h_6)) ?_
    refine JC.skip ?_
    refine JQ.seq ?_
    refine JC.seq ?_
    refine JC.block ?_
    refine JC.seq ?_
    refine JC.region ?_
    refine JL.pure rfl (PO.move (v := .slice a l.length c) he_2) ?_
    refine JL.pure rfl (PO.move (v := .int .i64 ((j : Nat) : Int)) he_5) ?_
    refine JL.pure rfl (PO.move (v := .int .i64 ((k + j : Nat) : Int)) he_3) ?_
    refine JL.op rfl (JO.call [] Tryz.call244 rfl (C_markText (k + j) (by omega) (by omega)) rfl (fun _ _ => trivial)) ?_
    rintro _ _ ⟨_, ⟨rfl, rfl⟩, rfl⟩
    refine JL.facts fun hst => ?_
    obtain ⟨hr_7, hr_7b, -⟩ := row_some 0 rfl (by omega) hst
    refine JL.pure rfl (PO.indexAddrV (i := j) Tryz.underlying23 Tryz.sizeOf9 hr_7 hr_7b rfl rfl (by omega)) ?_
    refine JL.op rfl (JO.storeR 0 (vs := [str (mt (k + j))]) (cs' := (((markS l k).take j ++ l.drop j).set j (mt (k + j))).map str) rfl rfl rfl rfl Tryz.sizeOf9 rfl rfl (by decide) (by rw [List.length_map]; rw [mark_len (markS_len l k) hj]; omega) (setS (by rw [mark_len (markS_len l k) hj]; omega))) ?_
    rintro _ _ rfl
    refine JL.nil ?_
    refine JQ.seq ?_
    refine JC.region ?_
    refine JL.pure rfl (PO.move (v := .int .i64 ((k + j : Nat) : Int)) he_3) ?_
    refine JL.pure rfl (PO.add (c := (((k + j) + 1 : Nat) : Int)) rfl rfl (wr (by omega))) ?_
    refine JL.pure rfl (PO.assign (v := .int .i64 (((k + j) + 1 : Nat) : Int)) rfl) ?_
    refine JL.nil ?_
    refine JQ.blockN ?_
    refine JQ.seq ?_
    refine JC.region ?_
    refine JL.pure rfl (PO.move (v := .int .i64 ((j : Nat) : Int)) he_5) ?_
    refine JL.pure rfl (PO.add (c := ((j + 1 : Nat) : Int)) rfl rfl (wr (by omega))) ?_
    refine JL.pure rfl (PO.assign (v := .int .i64 ((j + 1 : Nat) : Int)) rfl) ?_
    refine JL.nil ?_
    refine JQ.again (l.length - (j + 1)) (by omega) ⟨j + 1, by omega, he_2, rfl, he_4, rfl, (by rw [← markS_step hlt]; rfl), rfl⟩
  · skip
    refine JC.condF (congrArg Value.bool (decide_eq_false h_6)) ?_
    refine JC.exit ?_
    refine JQ.thenExit ?_
    refine JQ.thenExit ?_
    refine JQ.blockE ?_
    refine JQ.seq ?_
    refine JC.seq ?_
    refine JC.region ?_
    refine JL.pure rfl (PO.move (v := .int .i64 ((k + j : Nat) : Int)) he_3) ?_
    refine JL.pure rfl (PO.assign (v := .int .i64 ((k + j : Nat) : Int)) rfl) ?_
    refine JL.nil ?_
    refine JQ.seq ?_
    refine JC.ret ?_
    refine Done.one (.inl rfl) rfl (RV.tmp (v := .int .i64 ((k + j : Nat) : Int)) rfl) (List.Sublist.refl _) ?_
    exact ⟨by rw [show j = l.length by omega], by rw [mark_all (markS_len l k) (by omega)]⟩

theorem C_markCellS (a : Option Addr) (c : Nat) (l : List Cell) (k : Nat) (h0 : 0 < k) (h1 : k + 2 * l.length ≤ 100000000) :
    Ct Tryz.prog 131 [.slice a l.length c, .int .i64 ((k : Nat) : Int)] [Res.row (.slice a l.length c) 113 2 l.length (l.flatMap encC)] (fun _ => True) (fun v A' => v = .int .i64 ((k + 2 * l.length : Nat) : Int) ∧ A' = [.row (.slice a l.length c) 113 2 l.length ((markC l k).flatMap encC)]) := by
  refine Ct.intro Tryz.func131 rfl Tryz.ntmps131 (Nat.le_of_ble_eq_true rfl) fun w0 hpre => ?_
  refine JC.seq ?_
  refine JC.region ?_
  refine JL.pure rfl (PO.assign (v := .int .i64 0) rfl) ?_
  refine JL.nil ?_
  refine JQ.seq ?_
  refine JC.seq ?_
  refine JC.seq ?_
  refine JC.region ?_
  refine JL.pure rfl (PO.assign (v := .int .i64 0) rfl) ?_
  refine JL.nil ?_
  refine JQ.seq ?_
  refine JC.block ?_
  refine JC.loop (fun k_ e_ L_ => ∃ j : Nat, (j ≤ l.length) ∧ e_ 0 = .slice a l.length c ∧ e_ 1 = .int .i64 ((k + 2 * j : Nat) : Int) ∧ e_ 4 = .int .i64 0 ∧ e_ 5 = .int .i64 ((j : Nat) : Int) ∧ L_ = [Res.row (.slice a l.length c) 113 2 l.length (((markC l k).take j ++ l.drop j).flatMap encC)] ∧ k_ = l.length - j) _ ⟨0, by omega, rfl, rfl, rfl, rfl, rfl, rfl⟩ ?_
  rintro _ e_1 _ ⟨j, hj, he_2, he_3, he_4, he_5, rfl, rfl⟩
  refine JC.seq ?_
  refine JC.seq ?_
  refine JC.region ?_
  refine JL.pure rfl (PO.move (v := .int .i64 ((j : Nat) : Int)) he_5) ?_
  refine JL.pure rfl (PO.move (v := .slice a l.length c) he_2) ?_
  refine JL.pure rfl (PO.lenV Tryz.underlying29 rfl) ?_
  refine JL.pure rfl (PO.lss rfl rfl) ?_
  refine JL.nil ?_
  refine JQ.seq ?_
  by_cases h_6 : ((j : Nat) : Int) < ((l.length : Nat) : Int)
  · skip
    have hlt : j < l.length := by omega
    refine JC.condT (congrArg Value.bool (decide_eq_true h_6)) ?_
    refine JC.skip ?_
    refine JQ.seq ?_
    refine JC.seq ?_
    refine JC.block ?_
    refine JC.seq ?_
    refine JC.region ?_
    refine JL.pure rfl (PO.move (v := .slice a l.length c) he_2) ?_
    refine JL.pure rfl (PO.move (v := .int .i64 ((j : Nat) : Int)) he_5) ?_
    refine JL.pure rfl (PO.move (v := .int .i64 ((k + 2 * j : Nat) : Int)) he_3) ?_
    refine JL.op rfl (JO.call [] Tryz.call244 rfl (C_markText (k + 2 * j) (by omega) (by omega)) rfl (fun _ _ => trivial)) ?_
    rintro _ _ ⟨_, ⟨rfl, rfl⟩, rfl⟩
    refine JL.facts fun hst => ?_
    obtain ⟨hr_7, hr_7b, -⟩ := row_some 0 rfl (by omega) hst
    refine JL.pure rfl (PO.indexAddrV (i := j) Tryz.underlying29 Tryz.sizeOf113 hr_7 hr_7b rfl rfl (by omega)) ?_
    refine JL.pure rfl (PO.fieldAddrE fo113_0 hr_7 rfl) ?_
    refine JL.op rfl (JO.storeR 0 (vs := [str (mt (k + 2 * j))]) (cs' := (((markC l k).take j ++ l.drop j).set j (mt (k + 2 * j), (((markC l k).take j ++ l.drop j).getD j c0).2)).flatMap encC) rfl rfl rfl rfl Tryz.sizeOf9 rfl rfl (by decide) (by rw [lenC]; (try rw [List.length_set]); rw [mark_len (markC_len l k) hj]; omega) (set1 (by (try rw [List.length_set]); rw [mark_len (markC_len l k) hj]; omega))) ?_
    rintro _ _ rfl
    refine JL.nil ?_
    refine JQ.seq ?_
    refine JC.seq ?_
    refine JC.region ?_
    refine JL.pure rfl (PO.move (v := .int .i64 ((k + 2 * j : Nat) : Int)) he_3) ?_
    refine JL.pure rfl (PO.add (c := (((k + 2 * j) + 1 : Nat) : Int)) rfl rfl (wr (by omega))) ?_
    refine JL.pure rfl (PO.assign (v := .int .i64 (((k + 2 * j) + 1 : Nat) : Int)) rfl) ?_
    refine JL.nil ?_
    refine JQ.seq ?_
    refine JC.seq ?_
    refine JC.region ?_
    refine JL.pure rfl (PO.move (v := .slice a l.length c) he_2) ?_
    refine JL.pure rfl (PO.move (v := .int .i64 ((j : Nat) : Int)) he_5) ?_
    refine JL.pure rfl (PO.move (v := .int .i64 (((k + 2 * j) + 1 : Nat) : Int)) rfl) ?_
    refine JL.op rfl (JO.call [] Tryz.call244 rfl (C_markText ((k + 2 * j) + 1) (by omega) (by omega)) rfl (fun _ _ => trivial)) ?_
    rintro _ _ ⟨_, ⟨rfl, rfl⟩, rfl⟩
    refine JL.pure rfl (PO.indexAddrV (i := j) Tryz.underlying29 Tryz.sizeOf113 hr_7 hr_7b rfl rfl (by omega)) ?_
    refine JL.pure rfl (PO.fieldAddrE fo113_1 hr_7 rfl) ?_
    refine JL.op rfl (JO.storeR 0 (vs := [str (mt ((k + 2 * j) + 1))]) (cs' := ((((markC l k).take j ++ l.drop j).set j (mt (k + 2 * j), (((markC l k).take j ++ l.drop j).getD j c0).2)).set j (((((markC l k).take j ++ l.drop j).set j (mt (k + 2 * j), (((markC l k).take j ++ l.drop j).getD j c0).2)).getD j c0).1, mt ((k + 2 * j) + 1))).flatMap encC) rfl rfl rfl rfl Tryz.sizeOf9 rfl rfl (by decide) (by rw [lenC]; (try rw [List.length_set]); rw [mark_len (markC_len l k) hj]; omega) (set2 (by (try rw [List.length_set]); rw [mark_len (markC_len l k) hj]; omega))) ?_
    rintro _ _ rfl
    refine JL.nil ?_
    refine JQ.seq ?_
    refine JC.region ?_
    refine JL.pure rfl (PO.move (v := .int .i64 (((k + 2 * j) + 1 : Nat) : Int)) rfl) ?_
    refine JL.pure rfl (PO.add (c := ((((k + 2 * j) + 1) + 1 : Nat) : Int)) rfl rfl (wr (by omega))) ?_
    refine JL.pure rfl (PO.assign (v := .int .i64 ((((k + 2 * j) + 1) + 1 : Nat) : Int)) rfl) ?_
    refine JL.nil ?_
    refine JQ.blockN ?_
    refine JQ.seq ?_
    refine JC.region ?_
    refine JL.pure rfl (PO.move (v := .int .i64 ((j : Nat) : Int)) he_5) ?_
    refine JL.pure rfl (PO.add (c := ((j + 1 : Nat) : Int)) rfl rfl (wr (by omega))) ?_
    refine JL.pure rfl (PO.assign (v := .int .i64 ((j + 1 : Nat) : Int)) rfl) ?_
    refine JL.nil ?_
    refine JQ.again (l.length - (j + 1)) (by omega) ⟨j + 1, by omega, he_2, rfl, he_4, rfl, (congrArg (fun q : List Cell => [Res.row (.slice a l.length c) 113 2 l.length (q.flatMap encC)]) ((markC_two (by rw [mark_len (markC_len l k) hj]; omega)).trans (markC_step hlt))), rfl⟩
  · skip
    refine JC.condF (congrArg Value.bool (decide_eq_false h_6)) ?_
    refine JC.exit ?_
    refine JQ.thenExit ?_
    refine JQ.thenExit ?_
    refine JQ.blockE ?_
    refine JQ.seq ?_
    refine JC.seq ?_
    refine JC.region ?_
    refine JL.pure rfl (PO.move (v := .int .i64 ((k + 2 * j : Nat) : Int)) he_3) ?_
    refine JL.pure rfl (PO.assign (v := .int .i64 ((k + 2 * j : Nat) : Int)) rfl) ?_
    refine JL.nil ?_
    refine JQ.seq ?_
    refine JC.ret ?_
    refine Done.one (.inl rfl) rfl (RV.tmp (v := .int .i64 ((k + 2 * j : Nat) : Int)) rfl) (List.Sublist.refl _) ?_
    exact ⟨by rw [show j = l.length by omega], by rw [mark_all (markC_len l k) (by omega)]⟩

theorem C_heldStringS (a : Option Addr) (n c : Nat) (s : List Str) (k : Nat) (hn : s.length = n) (h0 : 0 < k) (h1 : k + 1 * s.length ≤ 100000000) :
    Ct Tryz.prog 246 [.slice a n c, .int .i64 ((k : Nat) : Int)] [] (fun w => Sees w (.slice a n c) 1 s.length (s.map str)) (fun v A' => v = .int .i64 (heldS s k) ∧ A' = []) := by
  refine Ct.intro Tryz.func246 rfl Tryz.ntmps246 (Nat.le_of_ble_eq_true rfl) fun w0 hpre => ?_
  have hs_a : Sees w0 _ _ _ _ := hpre
  refine JC.seq ?_
  refine JC.region ?_
  refine JL.pure rfl (PO.assign (v := .int .i64 0) rfl) ?_
  refine JL.nil ?_
  refine JQ.seq ?_
  refine JC.seq ?_
  refine JC.seq ?_
  refine JC.region ?_
  refine JL.pure rfl (PO.assign (v := .int .i64 0) rfl) ?_
  refine JL.nil ?_
  refine JQ.seq ?_
  refine JC.block ?_
  refine JC.loop (fun k_ e_ L_ => ∃ j : Nat, (j ≤ s.length) ∧ (heldS (s.drop j) (k + j) = heldS s k) ∧ e_ 0 = .slice a n c ∧ e_ 1 = .int .i64 ((k + j : Nat) : Int) ∧ e_ 5 = .int .i64 ((j : Nat) : Int) ∧ L_ = [] ∧ k_ = s.length - j) _ ⟨0, by omega, rfl, rfl, rfl, rfl, rfl, rfl⟩ ?_
  rintro _ e_1 _ ⟨j, hj, hR, he_2, he_3, he_4, rfl, rfl⟩
  refine JC.seq ?_
  refine JC.seq ?_
  refine JC.region ?_
  refine JL.pure rfl (PO.move (v := .int .i64 ((j : Nat) : Int)) he_4) ?_
  refine JL.pure rfl (PO.move (v := .slice a n c) he_2) ?_
  refine JL.pure rfl (PO.lenV Tryz.underlying23 rfl) ?_
  refine JL.pure rfl (PO.lss rfl rfl) ?_
  refine JL.nil ?_
  refine JQ.seq ?_
  by_cases h_5 : ((j : Nat) : Int) < ((n : Nat) : Int)
  · skip
    have hlt : j < s.length := by omega
    refine JC.condT (congrArg Value.bool (decide_eq_true h_5)) ?_
    refine JC.skip ?_
    refine JQ.seq ?_
    refine JC.seq ?_
    refine JC.block ?_
    refine JC.seq ?_
    refine JC.seq ?_
    refine JC.regionA [] 6 mixed (by simp) ?_
    refine JA.takeP 0 rfl (by kernel_rfl) (NP.th (NP.th (NP.bl (NP.th (NP.th (NP.bl (NP.th NP.body))))))) (by kernel_rfl) (by kernel_rfl) rfl (PO.move (v := .slice a n c) he_2) ?_
    refine JA.takeP 1 rfl (by kernel_rfl) (NP.th (NP.th (NP.bl (NP.th (NP.th (NP.bl (NP.th NP.body))))))) (by kernel_rfl) (by kernel_rfl) rfl (PO.move (v := .int .i64 ((j : Nat) : Int)) he_4) ?_
    obtain ⟨hr_6, hr_6b, -⟩ := sees_some hs_a (by omega)
    refine JA.takeP 2 rfl (by kernel_rfl) (NP.th (NP.th (NP.bl (NP.th (NP.th (NP.bl (NP.th NP.body))))))) (by kernel_rfl) (by kernel_rfl) rfl (PO.indexAddrV (i := j) Tryz.underlying23 Tryz.sizeOf9 hr_6 hr_6b rfl rfl (by omega)) ?_
    refine JA.take 3 rfl (by kernel_rfl) (NP.th (NP.th (NP.bl (NP.th (NP.th (NP.bl (NP.th NP.body))))))) (by kernel_rfl) (by kernel_rfl) (by kernel_rfl) rfl (LO.loadS1 (v := str (s.getD j [])) hs_a (fun _ _ => List.not_mem_nil) rfl Tryz.isAgg9 (atS (by omega))) ?_
    refine JA.takeP 4 rfl (by kernel_rfl) (NP.th (NP.th (NP.bl (NP.th (NP.th (NP.bl (NP.th NP.body))))))) (by kernel_rfl) (by kernel_rfl) rfl (PO.move (v := .int .i64 ((k + j : Nat) : Int)) he_3) ?_
    refine JA.one (i := 5) (by kernel_rfl) ?_
    refine JX.op rfl rfl (JO.call [] Tryz.call244 rfl (C_markText (k + j) (by omega) (by omega)) rfl (fun _ _ => trivial)) ?_
    rintro _ _ ⟨_, ⟨rfl, rfl⟩, rfl⟩
    refine ⟨(fun _ h => by cases h), ?_⟩
    refine JA.takeP 6 rfl (by kernel_rfl) (NP.th (NP.th (NP.bl (NP.th (NP.th (NP.bl (NP.th NP.body))))))) (by kernel_rfl) (by kernel_rfl) rfl (PO.neqS rfl rfl) ?_
    refine JA.done (by kernel_rfl) ?_
    refine JQ.seq ?_
    by_cases h_7 : (s.getD j []) = (mt (k + j))
    · skip
      have heq0 := h_7
      refine JC.condF (congrArg Value.bool (congrArg Bool.not (decide_eq_true h_7))) ?_
      refine JC.skip ?_
      refine JQ.seq ?_
      refine JC.region ?_
      refine JL.pure rfl (PO.move (v := .int .i64 ((k + j : Nat) : Int)) he_3) ?_
      refine JL.pure rfl (PO.add (c := (((k + j) + 1 : Nat) : Int)) rfl rfl (wr (by omega))) ?_
      refine JL.pure rfl (PO.assign (v := .int .i64 (((k + j) + 1 : Nat) : Int)) rfl) ?_
      refine JL.nil ?_
      refine JQ.blockN ?_
      refine JQ.seq ?_
      refine JC.region ?_
      refine JL.pure rfl (PO.move (v := .int .i64 ((j : Nat) : Int)) he_4) ?_
      refine JL.pure rfl (PO.add (c := ((j + 1 : Nat) : Int)) rfl rfl (wr (by omega))) ?_
      refine JL.pure rfl (PO.assign (v := .int .i64 ((j + 1 : Nat) : Int)) rfl) ?_
      refine JL.nil ?_
      refine JQ.again (s.length - (j + 1)) (by omega) ⟨j + 1, by omega, (by rw [heldS_step hlt, if_pos heq0] at hR; exact hR), he_2, rfl, rfl, rfl, rfl⟩
    · skip
      have hne0 := h_7
      refine JC.condT (congrArg Value.bool (congrArg Bool.not (decide_eq_false h_7))) ?_
      refine JC.seq ?_
      refine JC.region ?_
      refine JL.pure rfl (PO.assign (v := .int .i64 (-1)) rfl) ?_
      refine JL.nil ?_
      refine JQ.seq ?_
      refine JC.ret ?_
      refine JQ.thenRet ?_
      refine JQ.blockRet ?_
      refine JQ.thenRet ?_
      refine JQ.thenRet ?_
      refine JQ.blockRet ?_
      refine JQ.thenRet ?_
      refine Done.one (.inl rfl) rfl (RV.tmp (v := .int .i64 (-1)) rfl) (List.nil_sublist _) ?_
      refine ⟨?_, rfl⟩
      rw [heldS_step hlt, if_neg hne0] at hR
      rw [← hR]
  · skip
    refine JC.condF (congrArg Value.bool (decide_eq_false h_5)) ?_
    refine JC.exit ?_
    refine JQ.thenExit ?_
    refine JQ.thenExit ?_
    refine JQ.blockE ?_
    refine JQ.seq ?_
    refine JC.seq ?_
    refine JC.region ?_
    refine JL.pure rfl (PO.move (v := .int .i64 ((k + j : Nat) : Int)) he_3) ?_
    refine JL.pure rfl (PO.assign (v := .int .i64 ((k + j : Nat) : Int)) rfl) ?_
    refine JL.nil ?_
    refine JQ.seq ?_
    refine JC.ret ?_
    refine Done.one (.inl rfl) rfl (RV.tmp (v := .int .i64 ((k + j : Nat) : Int)) rfl) (List.nil_sublist _) ?_
    refine ⟨?_, rfl⟩
    rw [List.drop_of_length_le (by omega)] at hR
    rw [← hR]
    rfl

theorem C_heldCellS (a : Option Addr) (n c : Nat) (s : List Cell) (k : Nat) (hn : s.length = n) (h0 : 0 < k) (h1 : k + 2 * s.length ≤ 100000000) :
    Ct Tryz.prog 133 [.slice a n c, .int .i64 ((k : Nat) : Int)] [] (fun w => Sees w (.slice a n c) 2 s.length (s.flatMap encC)) (fun v A' => v = .int .i64 (heldC s k) ∧ A' = []) := by
  refine Ct.intro Tryz.func133 rfl Tryz.ntmps133 (Nat.le_of_ble_eq_true rfl) fun w0 hpre => ?_
  have hs_a : Sees w0 _ _ _ _ := hpre
  refine JC.seq ?_
  refine JC.region ?_
  refine JL.pure rfl (PO.assign (v := .int .i64 0) rfl) ?_
  refine JL.nil ?_
  refine JQ.seq ?_
  refine JC.seq ?_
  refine JC.seq ?_
  refine JC.region ?_
  refine JL.pure rfl (PO.assign (v := .int .i64 0) rfl) ?_
  refine JL.nil ?_
  refine JQ.seq ?_
  refine JC.block ?_
  refine JC.loop (fun k_ e_ L_ => ∃ j : Nat, (j ≤ s.length) ∧ (heldC (s.drop j) (k + 2 * j) = heldC s k) ∧ e_ 0 = .slice a n c ∧ e_ 1 = .int .i64 ((k + 2 * j : Nat) : Int) ∧ e_ 5 = .int .i64 ((j : Nat) : Int) ∧ L_ = [] ∧ k_ = s.length - j) _ ⟨0, by omega, rfl, rfl, rfl, rfl, rfl, rfl⟩ ?_
  rintro _ e_1 _ ⟨j, hj, hR, he_2, he_3, he_4, rfl, rfl⟩
  refine JC.seq ?_
  refine JC.seq ?_
  refine JC.region ?_
  refine JL.pure rfl (PO.move (v := .int .i64 ((j : Nat) : Int)) he_4) ?_
  refine JL.pure rfl (PO.move (v := .slice a n c) he_2) ?_
  refine JL.pure rfl (PO.lenV Tryz.underlying29 rfl) ?_
  refine JL.pure rfl (PO.lss rfl rfl) ?_
  refine JL.nil ?_
  refine JQ.seq ?_
  by_cases h_5 : ((j : Nat) : Int) < ((n : Nat) : Int)
  · skip
    have hlt : j < s.length := by omega
    refine JC.condT (congrArg Value.bool (decide_eq_true h_5)) ?_
    refine JC.skip ?_
    refine JQ.seq ?_
    refine JC.seq ?_
    refine JC.block ?_
    refine JC.seq ?_
    refine JC.seq ?_
    refine JC.regionA [] 7 mixed (by simp) ?_
    refine JA.takeP 0 rfl (by kernel_rfl) (NP.th (NP.th (NP.bl (NP.th (NP.th (NP.bl (NP.th NP.body))))))) (by kernel_rfl) (by kernel_rfl) rfl (PO.move (v := .slice a n c) he_2) ?_
    refine JA.takeP 1 rfl (by kernel_rfl) (NP.th (NP.th (NP.bl (NP.th (NP.th (NP.bl (NP.th NP.body))))))) (by kernel_rfl) (by kernel_rfl) rfl (PO.move (v := .int .i64 ((j : Nat) : Int)) he_4) ?_
    obtain ⟨hr_6, hr_6b, -⟩ := sees_some hs_a (by omega)
    refine JA.takeP 2 rfl (by kernel_rfl) (NP.th (NP.th (NP.bl (NP.th (NP.th (NP.bl (NP.th NP.body))))))) (by kernel_rfl) (by kernel_rfl) rfl (PO.indexAddrV (i := j) Tryz.underlying29 Tryz.sizeOf113 hr_6 hr_6b rfl rfl (by omega)) ?_
    refine JA.takeP 3 rfl (by kernel_rfl) (NP.th (NP.th (NP.bl (NP.th (NP.th (NP.bl (NP.th NP.body))))))) (by kernel_rfl) (by kernel_rfl) rfl (PO.fieldAddrE fo113_0 hr_6 rfl) ?_
    refine JA.take 4 rfl (by kernel_rfl) (NP.th (NP.th (NP.bl (NP.th (NP.th (NP.bl (NP.th NP.body))))))) (by kernel_rfl) (by kernel_rfl) (by kernel_rfl) rfl (LO.loadS1 (v := str ((s.getD j c0).1)) hs_a (fun _ _ => List.not_mem_nil) rfl Tryz.isAgg9 (atC1 (by omega))) ?_
    refine JA.takeP 5 rfl (by kernel_rfl) (NP.th (NP.th (NP.bl (NP.th (NP.th (NP.bl (NP.th NP.body))))))) (by kernel_rfl) (by kernel_rfl) rfl (PO.move (v := .int .i64 ((k + 2 * j : Nat) : Int)) he_3) ?_
    refine JA.one (i := 6) (by kernel_rfl) ?_
    refine JX.op rfl rfl (JO.call [] Tryz.call244 rfl (C_markText (k + 2 * j) (by omega) (by omega)) rfl (fun _ _ => trivial)) ?_
    rintro _ _ ⟨_, ⟨rfl, rfl⟩, rfl⟩
    refine ⟨(fun _ h => by cases h), ?_⟩
    refine JA.takeP 7 rfl (by kernel_rfl) (NP.th (NP.th (NP.bl (NP.th (NP.th (NP.bl (NP.th NP.body))))))) (by kernel_rfl) (by kernel_rfl) rfl (PO.neqS rfl rfl) ?_
    refine JA.done (by kernel_rfl) ?_
    refine JQ.seq ?_
    by_cases h_7 : ((s.getD j c0).1) = (mt (k + 2 * j))
    · skip
      have heq0 := h_7
      refine JC.condF (congrArg Value.bool (congrArg Bool.not (decide_eq_true h_7))) ?_
      refine JC.skip ?_
      refine JQ.seq ?_
      refine JC.seq ?_
      refine JC.region ?_
      refine JL.pure rfl (PO.move (v := .int .i64 ((k + 2 * j : Nat) : Int)) he_3) ?_
      refine JL.pure rfl (PO.add (c := (((k + 2 * j) + 1 : Nat) : Int)) rfl rfl (wr (by omega))) ?_
      refine JL.pure rfl (PO.assign (v := .int .i64 (((k + 2 * j) + 1 : Nat) : Int)) rfl) ?_
      refine JL.nil ?_
      refine JQ.seq ?_
      refine JC.seq ?_
      refine JC.seq ?_
      refine JC.regionA [] 7 mixed (by simp) ?_
      refine JA.takeP 0 rfl (by kernel_rfl) (NP.th (NP.th (NP.bl (NP.th (NP.th (NP.bl (NP.th NP.body))))))) (by kernel_rfl) (by kernel_rfl) rfl (PO.move (v := .slice a n c) he_2) ?_
      refine JA.takeP 1 rfl (by kernel_rfl) (NP.th (NP.th (NP.bl (NP.th (NP.th (NP.bl (NP.th NP.body))))))) (by kernel_rfl) (by kernel_rfl) rfl (PO.move (v := .int .i64 ((j : Nat) : Int)) he_4) ?_
      refine JA.takeP 2 rfl (by kernel_rfl) (NP.th (NP.th (NP.bl (NP.th (NP.th (NP.bl (NP.th NP.body))))))) (by kernel_rfl) (by kernel_rfl) rfl (PO.indexAddrV (i := j) Tryz.underlying29 Tryz.sizeOf113 hr_6 hr_6b rfl rfl (by omega)) ?_
      refine JA.takeP 3 rfl (by kernel_rfl) (NP.th (NP.th (NP.bl (NP.th (NP.th (NP.bl (NP.th NP.body))))))) (by kernel_rfl) (by kernel_rfl) rfl (PO.fieldAddrE fo113_1 hr_6 rfl) ?_
      refine JA.take 4 rfl (by kernel_rfl) (NP.th (NP.th (NP.bl (NP.th (NP.th (NP.bl (NP.th NP.body))))))) (by kernel_rfl) (by kernel_rfl) (by kernel_rfl) rfl (LO.loadS1 (v := str ((s.getD j c0).2)) hs_a (fun _ _ => List.not_mem_nil) rfl Tryz.isAgg9 (atC2 (by omega))) ?_
      refine JA.takeP 5 rfl (by kernel_rfl) (NP.th (NP.th (NP.bl (NP.th (NP.th (NP.bl (NP.th NP.body))))))) (by kernel_rfl) (by kernel_rfl) rfl (PO.move (v := .int .i64 (((k + 2 * j) + 1 : Nat) : Int)) rfl) ?_
      refine JA.one (i := 6) (by kernel_rfl) ?_
      refine JX.op rfl rfl (JO.call [] Tryz.call244 rfl (C_markText ((k + 2 * j) + 1) (by omega) (by omega)) rfl (fun _ _ => trivial)) ?_
      rintro _ _ ⟨_, ⟨rfl, rfl⟩, rfl⟩
      refine ⟨(fun _ h => by cases h), ?_⟩
      refine JA.takeP 7 rfl (by kernel_rfl) (NP.th (NP.th (NP.bl (NP.th (NP.th (NP.bl (NP.th NP.body))))))) (by kernel_rfl) (by kernel_rfl) rfl (PO.neqS rfl rfl) ?_
      refine JA.done (by kernel_rfl) ?_
      refine JQ.seq ?_
      by_cases h_8 : ((s.getD j c0).2) = (mt ((k + 2 * j) + 1))
      · skip
        have heq1 := h_8
        refine JC.condF (congrArg Value.bool (congrArg Bool.not (decide_eq_true h_8))) ?_
        refine JC.skip ?_
        refine JQ.seq ?_
        refine JC.region ?_
        refine JL.pure rfl (PO.move (v := .int .i64 (((k + 2 * j) + 1 : Nat) : Int)) rfl) ?_
        refine JL.pure rfl (PO.add (c := ((((k + 2 * j) + 1) + 1 : Nat) : Int)) rfl rfl (wr (by omega))) ?_
        refine JL.pure rfl (PO.assign (v := .int .i64 ((((k + 2 * j) + 1) + 1 : Nat) : Int)) rfl) ?_
        refine JL.nil ?_
        refine JQ.blockN ?_
        refine JQ.seq ?_
        refine JC.region ?_
        refine JL.pure rfl (PO.move (v := .int .i64 ((j : Nat) : Int)) he_4) ?_
        refine JL.pure rfl (PO.add (c := ((j + 1 : Nat) : Int)) rfl rfl (wr (by omega))) ?_
        refine JL.pure rfl (PO.assign (v := .int .i64 ((j + 1 : Nat) : Int)) rfl) ?_
        refine JL.nil ?_
        refine JQ.again (s.length - (j + 1)) (by omega) ⟨j + 1, by omega, (by rw [heldC_step hlt, if_pos heq0, if_pos heq1] at hR; exact hR), he_2, rfl, rfl, rfl, rfl⟩
      · skip
        have hne1 := h_8
        refine JC.condT (congrArg Value.bool (congrArg Bool.not (decide_eq_false h_8))) ?_
        refine JC.seq ?_
        refine JC.region ?_
        refine JL.pure rfl (PO.assign (v := .int .i64 (-1)) rfl) ?_
        refine JL.nil ?_
        refine JQ.seq ?_
        refine JC.ret ?_
        refine JQ.thenRet ?_
        refine JQ.blockRet ?_
        refine JQ.thenRet ?_
        refine JQ.thenRet ?_
        refine JQ.blockRet ?_
        refine JQ.thenRet ?_
        refine Done.one (.inl rfl) rfl (RV.tmp (v := .int .i64 (-1)) rfl) (List.nil_sublist _) ?_
        refine ⟨?_, rfl⟩
        rw [heldC_step hlt, if_pos heq0, if_neg hne1] at hR
        rw [← hR]
    · skip
      have hne0 := h_7
      refine JC.condT (congrArg Value.bool (congrArg Bool.not (decide_eq_false h_7))) ?_
      refine JC.seq ?_
      refine JC.region ?_
      refine JL.pure rfl (PO.assign (v := .int .i64 (-1)) rfl) ?_
      refine JL.nil ?_
      refine JQ.seq ?_
      refine JC.ret ?_
      refine JQ.thenRet ?_
      refine JQ.blockRet ?_
      refine JQ.thenRet ?_
      refine JQ.thenRet ?_
      refine JQ.blockRet ?_
      refine JQ.thenRet ?_
      refine Done.one (.inl rfl) rfl (RV.tmp (v := .int .i64 (-1)) rfl) (List.nil_sublist _) ?_
      refine ⟨?_, rfl⟩
      rw [heldC_step hlt, if_neg hne0] at hR
      rw [← hR]
  · skip
    refine JC.condF (congrArg Value.bool (decide_eq_false h_5)) ?_
    refine JC.exit ?_
    refine JQ.thenExit ?_
    refine JQ.thenExit ?_
    refine JQ.blockE ?_
    refine JQ.seq ?_
    refine JC.seq ?_
    refine JC.region ?_
    refine JL.pure rfl (PO.move (v := .int .i64 ((k + 2 * j : Nat) : Int)) he_3) ?_
    refine JL.pure rfl (PO.assign (v := .int .i64 ((k + 2 * j : Nat) : Int)) rfl) ?_
    refine JL.nil ?_
    refine JQ.seq ?_
    refine JC.ret ?_
    refine Done.one (.inl rfl) rfl (RV.tmp (v := .int .i64 ((k + 2 * j : Nat) : Int)) rfl) (List.nil_sublist _) ?_
    refine ⟨?_, rfl⟩
    rw [List.drop_of_length_le (by omega)] at hR
    rw [← hR]
    rfl

end Go.Proofs.YtenfajgpdhgknaaGreatDoor

set_option linter.unusedSimpArgs false
set_option linter.unusedVariables false
set_option linter.unnecessarySimpa false
namespace Go.Proofs.YtenfajgpdhgknaaGreatDoor
open Go Go.RowKit
attribute [local irreducible] JL JC JQ JO LO PO JA JX Ct

theorem heldS_pos : ∀ (l : List Str) (k : Nat), heldS l k = -1 ∨ (k : Int) ≤ heldS l k
  | [], k => .inr (Int.le_refl _)
  | x :: l, k => by
    have := heldS_pos l (k + 1)
    unfold heldS
    split <;> omega
theorem heldC_pos : ∀ (l : List Cell) (k : Nat), heldC l k = -1 ∨ (k : Int) ≤ heldC l k
  | [], k => .inr (Int.le_refl _)
  | x :: l, k => by
    have := heldC_pos l (k + 2)
    unfold heldC
    split
    · split <;> omega
    · omega
def heldT (r w : List Str) (k : Int) : Int := if heldS r k.toNat < 0 then -1 else if heldS w (heldS r k.toNat).toNat < 0 then -1 else heldS w (heldS r k.toNat).toNat
def heldM (s : List Cell) (r w : List Str) (k : Int) : Int := if heldC s k.toNat < 0 then -1 else if heldT r w (heldC s k.toNat) < 0 then -1 else heldT r w (heldC s k.toNat)
theorem heldT_mark (r w : List Str) (k : Nat) : heldT (markS r k) (markS w (k + r.length)) k = ((k + r.length + w.length : Nat) : Int) := by
  have h1 := heldS_mark r k
  have h2 := heldS_mark w (k + r.length)
  unfold heldT
  rw [Int.toNat_natCast, h1, Int.toNat_natCast, h2, if_neg (by omega), if_neg (by omega)]
theorem heldM_mark (s : List Cell) (r w : List Str) (k : Nat) : heldM (markC s k) (markS r (k + 2 * s.length)) (markS w (k + 2 * s.length + r.length)) k = ((k + 2 * s.length + r.length + w.length : Nat) : Int) := by
  have h1 := heldC_mark s k
  have h2 := heldT_mark r w (k + 2 * s.length)
  unfold heldM
  rw [Int.toNat_natCast, h1, h2, if_neg (by omega), if_neg (by omega)]
theorem C_heldStringSI (a : Option Addr) (n c : Nat) (s : List Str) (k : Int) (hn : s.length = n) (h0 : 0 < k) (h1 : k + s.length ≤ 100000000) :
    Ct Tryz.prog 246 [.slice a n c, .int .i64 k] [] (fun w => Sees w (.slice a n c) 1 n (s.map str)) (fun v A' => v = .int .i64 (heldS s k.toNat) ∧ A' = []) := by
  have := C_heldStringS a n c s k.toNat hn (by omega) (by omega)
  rw [Int.toNat_of_nonneg (by omega)] at this
  subst hn
  exact this
theorem C_heldCellSI (a : Option Addr) (n c : Nat) (s : List Cell) (k : Int) (hn : s.length = n) (h0 : 0 < k) (h1 : k + 2 * s.length ≤ 100000000) :
    Ct Tryz.prog 133 [.slice a n c, .int .i64 k] [] (fun w => Sees w (.slice a n c) 2 n (s.flatMap encC)) (fun v A' => v = .int .i64 (heldC s k.toNat) ∧ A' = []) := by
  have := C_heldCellS a n c s k.toNat hn (by omega) (by omega)
  rw [Int.toNat_of_nonneg (by omega)] at this
  subst hn
  exact this

theorem C_eqTouch (a1 a2 b1 b2 : Option Addr) (c1 c2 d1 d2 : Nat) (r w r' w' : List Str) (h1 : r.length ≤ 9223372036854775807) (h2 : w.length ≤ 9223372036854775807) :
    Ct Tryz.prog 130 [.agg #[.slice a1 r.length c1, .slice a2 w.length c2], .agg #[.slice b1 r'.length d1, .slice b2 w'.length d2]] [] (fun w_ => Sees w_ (.slice a1 r.length c1) 1 r.length (r.map str) ∧ Sees w_ (.slice a2 w.length c2) 1 w.length (w.map str) ∧ Sees w_ (.slice b1 r'.length d1) 1 r'.length (r'.map str) ∧ Sees w_ (.slice b2 w'.length d2) 1 w'.length (w'.map str)) (fun v A' => v = .bool (decide (r = r') && decide (w = w')) ∧ A' = []) := by
  refine Ct.intro Tryz.func130 rfl Tryz.ntmps130 (Nat.le_of_ble_eq_true rfl) fun w0 hpre => ?_
  have hs_a1 : Sees w0 _ _ _ _ := hpre.1
  have hs_a2 : Sees w0 _ _ _ _ := hpre.2.1
  have hs_b1 : Sees w0 _ _ _ _ := hpre.2.2.1
  have hs_b2 : Sees w0 _ _ _ _ := hpre.2.2.2
  refine JC.seq ?_
  refine JC.region ?_
  refine JL.op rfl (JO.box (cs := [.slice a1 r.length c1, .slice a2 w.length c2]) rfl rfl) ?_
  rintro _ _ ⟨b_1, rfl, rfl⟩
  refine JL.op rfl (JO.box (cs := [.slice b1 r'.length d1, .slice b2 w'.length d2]) rfl rfl) ?_
  rintro _ _ ⟨b_2, rfl, rfl⟩
  refine JL.pure rfl (PO.assign (v := .bool false) rfl) ?_
  refine JL.nil ?_
  refine JQ.seq ?_
  refine JC.seq ?_
  refine JC.seq ?_
  refine JC.region ?_
  refine JL.pure rfl (PO.fieldAddr fo30_0 rfl) ?_
  refine JL.ld rfl (LO.load1 1 (v := .slice a1 r.length c1) rfl rfl Tryz.isAgg23 rfl) ?_
  refine JL.pure rfl (PO.fieldAddr fo30_0 rfl) ?_
  refine JL.ld rfl (LO.load1 0 (v := .slice b1 r'.length d1) rfl rfl Tryz.isAgg23 rfl) ?_
  refine JL.op rfl (JO.call [] Tryz.call243 rfl (C_eqStringS a1 b1 c1 d1 r r' (by omega)) rfl (fun w hw => ⟨hw.seeOut_ hs_a1 (fun _ _ => List.not_mem_nil), hw.seeOut_ hs_b1 (fun _ _ => List.not_mem_nil)⟩)) ?_
  rintro _ _ ⟨_, ⟨rfl, rfl⟩, rfl⟩
  refine JL.pure rfl (PO.not rfl) ?_
  refine JL.nil ?_
  refine JQ.seq ?_
  by_cases h_3 : r = r'
  · skip
    refine JC.condF (congrArg Value.bool (congrArg Bool.not (decide_eq_true h_3))) ?_
    refine JC.skip ?_
    refine JQ.seq ?_
    refine JC.seq ?_
    refine JC.seq ?_
    refine JC.region ?_
    refine JL.pure rfl (PO.fieldAddr fo30_1 rfl) ?_
    refine JL.ld rfl (LO.load1 1 (v := .slice a2 w.length c2) rfl rfl Tryz.isAgg23 rfl) ?_
    refine JL.pure rfl (PO.fieldAddr fo30_1 rfl) ?_
    refine JL.ld rfl (LO.load1 0 (v := .slice b2 w'.length d2) rfl rfl Tryz.isAgg23 rfl) ?_
    refine JL.op rfl (JO.call [] Tryz.call243 rfl (C_eqStringS a2 b2 c2 d2 w w' (by omega)) rfl (fun w hw => ⟨hw.seeOut_ hs_a2 (fun _ _ => List.not_mem_nil), hw.seeOut_ hs_b2 (fun _ _ => List.not_mem_nil)⟩)) ?_
    rintro _ _ ⟨_, ⟨rfl, rfl⟩, rfl⟩
    refine JL.pure rfl (PO.not rfl) ?_
    refine JL.nil ?_
    refine JQ.seq ?_
    by_cases h_4 : w = w'
    · skip
      refine JC.condF (congrArg Value.bool (congrArg Bool.not (decide_eq_true h_4))) ?_
      refine JC.skip ?_
      refine JQ.seq ?_
      refine JC.seq ?_
      refine JC.region ?_
      refine JL.pure rfl (PO.assign (v := .bool true) rfl) ?_
      refine JL.nil ?_
      refine JQ.seq ?_
      refine JC.ret ?_
      refine Done.one (.inl rfl) rfl (RV.tmp (v := .bool true) rfl) (List.nil_sublist _) ?_
      refine ⟨?_, rfl⟩
      simp_all
    · skip
      refine JC.condT (congrArg Value.bool (congrArg Bool.not (decide_eq_false h_4))) ?_
      refine JC.seq ?_
      refine JC.region ?_
      refine JL.pure rfl (PO.assign (v := .bool false) rfl) ?_
      refine JL.nil ?_
      refine JQ.seq ?_
      refine JC.ret ?_
      refine JQ.thenRet ?_
      refine Done.one (.inl rfl) rfl (RV.tmp (v := .bool false) rfl) (List.nil_sublist _) ?_
      refine ⟨?_, rfl⟩
      simp_all
  · skip
    refine JC.condT (congrArg Value.bool (congrArg Bool.not (decide_eq_false h_3))) ?_
    refine JC.seq ?_
    refine JC.region ?_
    refine JL.pure rfl (PO.assign (v := .bool false) rfl) ?_
    refine JL.nil ?_
    refine JQ.seq ?_
    refine JC.ret ?_
    refine JQ.thenRet ?_
    refine Done.one (.inl rfl) rfl (RV.tmp (v := .bool false) rfl) (List.nil_sublist _) ?_
    refine ⟨?_, rfl⟩
    simp_all

theorem C_eqMach (a0 a1 a2 b0 b1 b2 : Option Addr) (c0_ c1 c2 d0_ d1 d2 : Nat) (s : List Cell) (r w : List Str) (s' : List Cell) (r' w' : List Str) (h0 : s.length ≤ 9223372036854775807) (h1 : r.length ≤ 9223372036854775807) (h2 : w.length ≤ 9223372036854775807) :
    Ct Tryz.prog 19 [.agg #[.slice a0 s.length c0_, .slice a1 r.length c1, .slice a2 w.length c2], .agg #[.slice b0 s'.length d0_, .slice b1 r'.length d1, .slice b2 w'.length d2]] [] (fun w_ => Sees w_ (.slice a0 s.length c0_) 2 s.length (s.flatMap encC) ∧ Sees w_ (.slice a1 r.length c1) 1 r.length (r.map str) ∧ Sees w_ (.slice a2 w.length c2) 1 w.length (w.map str) ∧ Sees w_ (.slice b0 s'.length d0_) 2 s'.length (s'.flatMap encC) ∧ Sees w_ (.slice b1 r'.length d1) 1 r'.length (r'.map str) ∧ Sees w_ (.slice b2 w'.length d2) 1 w'.length (w'.map str)) (fun v A' => v = .bool (decide (s = s') && (decide (r = r') && decide (w = w'))) ∧ A' = []) := by
  refine Ct.intro Tryz.func19 rfl Tryz.ntmps19 (Nat.le_of_ble_eq_true rfl) fun w0 hpre => ?_
  have hs_a0 : Sees w0 _ _ _ _ := hpre.1
  have hs_a1 : Sees w0 _ _ _ _ := hpre.2.1
  have hs_a2 : Sees w0 _ _ _ _ := hpre.2.2.1
  have hs_b0 : Sees w0 _ _ _ _ := hpre.2.2.2.1
  have hs_b1 : Sees w0 _ _ _ _ := hpre.2.2.2.2.1
  have hs_b2 : Sees w0 _ _ _ _ := hpre.2.2.2.2.2
  refine JC.seq ?_
  refine JC.region ?_
  refine JL.op rfl (JO.box (cs := [.slice a0 s.length c0_, .slice a1 r.length c1, .slice a2 w.length c2]) rfl rfl) ?_
  rintro _ _ ⟨b_1, rfl, rfl⟩
  refine JL.op rfl (JO.box (cs := [.slice b0 s'.length d0_, .slice b1 r'.length d1, .slice b2 w'.length d2]) rfl rfl) ?_
  rintro _ _ ⟨b_2, rfl, rfl⟩
  refine JL.pure rfl (PO.assign (v := .bool false) rfl) ?_
  refine JL.nil ?_
  refine JQ.seq ?_
  refine JC.seq ?_
  refine JC.seq ?_
  refine JC.region ?_
  refine JL.pure rfl (PO.fieldAddr fo32_0 rfl) ?_
  refine JL.ld rfl (LO.load1 1 (v := .slice a0 s.length c0_) rfl rfl Tryz.isAgg29 rfl) ?_
  refine JL.pure rfl (PO.fieldAddr fo32_0 rfl) ?_
  refine JL.ld rfl (LO.load1 0 (v := .slice b0 s'.length d0_) rfl rfl Tryz.isAgg29 rfl) ?_
  refine JL.op rfl (JO.call [] Tryz.call129 rfl (C_eqCellS a0 b0 c0_ d0_ s s' (by omega)) rfl (fun w hw => ⟨hw.seeOut_ hs_a0 (fun _ _ => List.not_mem_nil), hw.seeOut_ hs_b0 (fun _ _ => List.not_mem_nil)⟩)) ?_
  rintro _ _ ⟨_, ⟨rfl, rfl⟩, rfl⟩
  refine JL.pure rfl (PO.not rfl) ?_
  refine JL.nil ?_
  refine JQ.seq ?_
  by_cases h_3 : s = s'
  · skip
    refine JC.condF (congrArg Value.bool (congrArg Bool.not (decide_eq_true h_3))) ?_
    refine JC.skip ?_
    refine JQ.seq ?_
    refine JC.seq ?_
    refine JC.seq ?_
    refine JC.region ?_
    refine JL.pure rfl (PO.fieldAddr fo32_1 rfl) ?_
    refine JL.ld rfl (LO.loadK 1 (vs := [.slice a1 r.length c1, .slice a2 w.length c2]) rfl rfl Tryz.isAgg30 Tryz.sizeOf30 rfl rfl) ?_
    refine JL.pure rfl (PO.fieldAddr fo32_1 rfl) ?_
    refine JL.ld rfl (LO.loadK 0 (vs := [.slice b1 r'.length d1, .slice b2 w'.length d2]) rfl rfl Tryz.isAgg30 Tryz.sizeOf30 rfl rfl) ?_
    refine JL.op rfl (JO.call [] Tryz.call130 rfl (C_eqTouch a1 a2 b1 b2 c1 c2 d1 d2 r w r' w' (by omega) (by omega)) rfl (fun w hw => ⟨hw.seeOut_ hs_a1 (fun _ _ => List.not_mem_nil), hw.seeOut_ hs_a2 (fun _ _ => List.not_mem_nil), hw.seeOut_ hs_b1 (fun _ _ => List.not_mem_nil), hw.seeOut_ hs_b2 (fun _ _ => List.not_mem_nil)⟩)) ?_
    rintro _ _ ⟨_, ⟨rfl, rfl⟩, rfl⟩
    refine JL.pure rfl (PO.not rfl) ?_
    refine JL.nil ?_
    refine JQ.seq ?_
    rcases Bool.eq_false_or_eq_true (decide (r = r') && decide (w = w')) with h_4 | h_4
    · skip
      have h_4d := h_4
      simp only [Bool.and_eq_true, Bool.and_eq_false_iff, decide_eq_true_eq, decide_eq_false_iff_not] at h_4d
      refine JC.condF (congrArg Value.bool (congrArg Bool.not h_4)) ?_
      refine JC.skip ?_
      refine JQ.seq ?_
      refine JC.seq ?_
      refine JC.region ?_
      refine JL.pure rfl (PO.assign (v := .bool true) rfl) ?_
      refine JL.nil ?_
      refine JQ.seq ?_
      refine JC.ret ?_
      refine Done.one (.inl rfl) rfl (RV.tmp (v := .bool true) rfl) (List.nil_sublist _) ?_
      refine ⟨?_, rfl⟩
      simp_all
    · skip
      have h_4d := h_4
      simp only [Bool.and_eq_true, Bool.and_eq_false_iff, decide_eq_true_eq, decide_eq_false_iff_not] at h_4d
      refine JC.condT (congrArg Value.bool (congrArg Bool.not h_4)) ?_
      refine JC.seq ?_
      refine JC.region ?_
      refine JL.pure rfl (PO.assign (v := .bool false) rfl) ?_
      refine JL.nil ?_
      refine JQ.seq ?_
      refine JC.ret ?_
      refine JQ.thenRet ?_
      refine Done.one (.inl rfl) rfl (RV.tmp (v := .bool false) rfl) (List.nil_sublist _) ?_
      refine ⟨?_, rfl⟩
      simp_all
  · skip
    refine JC.condT (congrArg Value.bool (congrArg Bool.not (decide_eq_false h_3))) ?_
    refine JC.seq ?_
    refine JC.region ?_
    refine JL.pure rfl (PO.assign (v := .bool false) rfl) ?_
    refine JL.nil ?_
    refine JQ.seq ?_
    refine JC.ret ?_
    refine JQ.thenRet ?_
    refine Done.one (.inl rfl) rfl (RV.tmp (v := .bool false) rfl) (List.nil_sublist _) ?_
    refine ⟨?_, rfl⟩
    simp_all

theorem C_markTouch (a1 a2 : Option Addr) (c1 c2 : Nat) (r w : List Str) (k : Nat) (h0 : 0 < k) (h1 : k + r.length + w.length ≤ 100000000) :
    Ct Tryz.prog 132 [.agg #[.slice a1 r.length c1, .slice a2 w.length c2], .int .i64 ((k : Nat) : Int)] [Res.row (.slice a1 r.length c1) 9 1 r.length (r.map str), Res.row (.slice a2 w.length c2) 9 1 w.length (w.map str)] (fun _ => True) (fun v A' => v = .int .i64 ((k + r.length + w.length : Nat) : Int) ∧ A' = [.row (.slice a1 r.length c1) 9 1 r.length ((markS r k).map str), .row (.slice a2 w.length c2) 9 1 w.length ((markS w (k + r.length)).map str)]) := by
  refine Ct.intro Tryz.func132 rfl Tryz.ntmps132 (Nat.le_of_ble_eq_true rfl) fun w0 hpre => ?_
  refine JC.seq ?_
  refine JC.region ?_
  refine JL.op rfl (JO.box (cs := [.slice a1 r.length c1, .slice a2 w.length c2]) rfl rfl) ?_
  rintro _ _ ⟨b_1, rfl, rfl⟩
  refine JL.pure rfl (PO.assign (v := .int .i64 0) rfl) ?_
  refine JL.nil ?_
  refine JQ.seq ?_
  refine JC.seq ?_
  refine JC.region ?_
  refine JL.pure rfl (PO.fieldAddr fo30_0 rfl) ?_
  refine JL.ld rfl (LO.load1 0 (v := .slice a1 r.length c1) rfl rfl Tryz.isAgg23 rfl) ?_
  refine JL.pure rfl (PO.move (v := .int .i64 ((k : Nat) : Int)) rfl) ?_
  refine JL.op rfl (JO.call [1] Tryz.call245 rfl (C_markStringS a1 c1 r k (by omega) (by omega)) rfl (fun _ _ => trivial)) ?_
  rintro _ _ ⟨_, ⟨rfl, rfl⟩, rfl⟩
  refine JL.pure rfl (PO.assign (v := .int .i64 ((k + r.length : Nat) : Int)) rfl) ?_
  refine JL.nil ?_
  refine JQ.seq ?_
  refine JC.seq ?_
  refine JC.region ?_
  refine JL.pure rfl (PO.fieldAddr fo30_1 rfl) ?_
  refine JL.ld rfl (LO.load1 1 (v := .slice a2 w.length c2) rfl rfl Tryz.isAgg23 rfl) ?_
  refine JL.pure rfl (PO.move (v := .int .i64 ((k + r.length : Nat) : Int)) rfl) ?_
  refine JL.op rfl (JO.call [2] Tryz.call245 rfl (C_markStringS a2 c2 w (k + r.length) (by omega) (by omega)) rfl (fun _ _ => trivial)) ?_
  rintro _ _ ⟨_, ⟨rfl, rfl⟩, rfl⟩
  refine JL.pure rfl (PO.assign (v := .int .i64 ((k + r.length + w.length : Nat) : Int)) rfl) ?_
  refine JL.nil ?_
  refine JQ.seq ?_
  refine JC.seq ?_
  refine JC.region ?_
  refine JL.pure rfl (PO.move (v := .int .i64 ((k + r.length + w.length : Nat) : Int)) rfl) ?_
  refine JL.pure rfl (PO.assign (v := .int .i64 ((k + r.length + w.length : Nat) : Int)) rfl) ?_
  refine JL.nil ?_
  refine JQ.seq ?_
  refine JC.ret ?_
  refine JQ.perm (pick_perm [1, 0] (A := [Res.row (.slice a1 r.length c1) 9 1 r.length ((markS r k).map str), Res.row (.slice a2 w.length c2) 9 1 w.length ((markS w (k + r.length)).map str)]) (F := [bk b_1 30 [.slice a1 r.length c1, .slice a2 w.length c2]]) rfl).symm ?_
  refine Done.one (.inl rfl) rfl (RV.tmp (v := .int .i64 ((k + r.length + w.length : Nat) : Int)) rfl) (List.sublist_append_left [Res.row (.slice a1 r.length c1) 9 1 r.length ((markS r k).map str), Res.row (.slice a2 w.length c2) 9 1 w.length ((markS w (k + r.length)).map str)] [bk b_1 30 [.slice a1 r.length c1, .slice a2 w.length c2]]) ?_
  exact ⟨rfl, rfl⟩

theorem C_markMach (a0 a1 a2 : Option Addr) (c0_ c1 c2 : Nat) (s : List Cell) (r w : List Str) (k : Nat) (h0 : 0 < k) (h1 : k + 2 * s.length + r.length + w.length ≤ 100000000) :
    Ct Tryz.prog 20 [.agg #[.slice a0 s.length c0_, .slice a1 r.length c1, .slice a2 w.length c2], .int .i64 ((k : Nat) : Int)] [Res.row (.slice a0 s.length c0_) 113 2 s.length (s.flatMap encC), Res.row (.slice a1 r.length c1) 9 1 r.length (r.map str), Res.row (.slice a2 w.length c2) 9 1 w.length (w.map str)] (fun _ => True) (fun v A' => v = .int .i64 ((k + 2 * s.length + r.length + w.length : Nat) : Int) ∧ A' = [.row (.slice a0 s.length c0_) 113 2 s.length ((markC s k).flatMap encC), .row (.slice a1 r.length c1) 9 1 r.length ((markS r (k + 2 * s.length)).map str), .row (.slice a2 w.length c2) 9 1 w.length ((markS w (k + 2 * s.length + r.length)).map str)]) := by
  refine Ct.intro Tryz.func20 rfl Tryz.ntmps20 (Nat.le_of_ble_eq_true rfl) fun w0 hpre => ?_
  refine JC.seq ?_
  refine JC.region ?_
  refine JL.op rfl (JO.box (cs := [.slice a0 s.length c0_, .slice a1 r.length c1, .slice a2 w.length c2]) rfl rfl) ?_
  rintro _ _ ⟨b_1, rfl, rfl⟩
  refine JL.pure rfl (PO.assign (v := .int .i64 0) rfl) ?_
  refine JL.nil ?_
  refine JQ.seq ?_
  refine JC.seq ?_
  refine JC.region ?_
  refine JL.pure rfl (PO.fieldAddr fo32_0 rfl) ?_
  refine JL.ld rfl (LO.load1 0 (v := .slice a0 s.length c0_) rfl rfl Tryz.isAgg29 rfl) ?_
  refine JL.pure rfl (PO.move (v := .int .i64 ((k : Nat) : Int)) rfl) ?_
  refine JL.op rfl (JO.call [1] Tryz.call131 rfl (C_markCellS a0 c0_ s k (by omega) (by omega)) rfl (fun _ _ => trivial)) ?_
  rintro _ _ ⟨_, ⟨rfl, rfl⟩, rfl⟩
  refine JL.pure rfl (PO.assign (v := .int .i64 ((k + 2 * s.length : Nat) : Int)) rfl) ?_
  refine JL.nil ?_
  refine JQ.seq ?_
  refine JC.seq ?_
  refine JC.region ?_
  refine JL.pure rfl (PO.fieldAddr fo32_1 rfl) ?_
  refine JL.ld rfl (LO.loadK 1 (vs := [.slice a1 r.length c1, .slice a2 w.length c2]) rfl rfl Tryz.isAgg30 Tryz.sizeOf30 rfl rfl) ?_
  refine JL.pure rfl (PO.move (v := .int .i64 ((k + 2 * s.length : Nat) : Int)) rfl) ?_
  refine JL.op rfl (JO.call [2, 2] Tryz.call132 rfl (C_markTouch a1 a2 c1 c2 r w (k + 2 * s.length) (by omega) (by omega)) rfl (fun _ _ => trivial)) ?_
  rintro _ _ ⟨_, ⟨rfl, rfl⟩, rfl⟩
  refine JL.pure rfl (PO.assign (v := .int .i64 ((k + 2 * s.length + r.length + w.length : Nat) : Int)) rfl) ?_
  refine JL.nil ?_
  refine JQ.seq ?_
  refine JC.seq ?_
  refine JC.region ?_
  refine JL.pure rfl (PO.move (v := .int .i64 ((k + 2 * s.length + r.length + w.length : Nat) : Int)) rfl) ?_
  refine JL.pure rfl (PO.assign (v := .int .i64 ((k + 2 * s.length + r.length + w.length : Nat) : Int)) rfl) ?_
  refine JL.nil ?_
  refine JQ.seq ?_
  refine JC.ret ?_
  refine JQ.perm (pick_perm [2, 0, 0] (A := [Res.row (.slice a0 s.length c0_) 113 2 s.length ((markC s k).flatMap encC), Res.row (.slice a1 r.length c1) 9 1 r.length ((markS r (k + 2 * s.length)).map str), Res.row (.slice a2 w.length c2) 9 1 w.length ((markS w (k + 2 * s.length + r.length)).map str)]) (F := [bk b_1 32 [.slice a0 s.length c0_, .slice a1 r.length c1, .slice a2 w.length c2]]) rfl).symm ?_
  refine Done.one (.inl rfl) rfl (RV.tmp (v := .int .i64 ((k + 2 * s.length + r.length + w.length : Nat) : Int)) rfl) (List.sublist_append_left [Res.row (.slice a0 s.length c0_) 113 2 s.length ((markC s k).flatMap encC), Res.row (.slice a1 r.length c1) 9 1 r.length ((markS r (k + 2 * s.length)).map str), Res.row (.slice a2 w.length c2) 9 1 w.length ((markS w (k + 2 * s.length + r.length)).map str)] [bk b_1 32 [.slice a0 s.length c0_, .slice a1 r.length c1, .slice a2 w.length c2]]) ?_
  exact ⟨rfl, rfl⟩

theorem C_heldTouch (a1 a2 : Option Addr) (n1 n2 c1 c2 : Nat) (r w : List Str) (k : Int) (hr : r.length = n1) (hw_ : w.length = n2) (h0 : 0 < k) (h1 : k + r.length + w.length ≤ 100000000) :
    Ct Tryz.prog 134 [.agg #[.slice a1 n1 c1, .slice a2 n2 c2], .int .i64 k] [] (fun w_ => Sees w_ (.slice a1 n1 c1) 1 n1 (r.map str) ∧ Sees w_ (.slice a2 n2 c2) 1 n2 (w.map str)) (fun v A' => v = .int .i64 (heldT r w k) ∧ A' = []) := by
  refine Ct.intro Tryz.func134 rfl Tryz.ntmps134 (Nat.le_of_ble_eq_true rfl) fun w0 hpre => ?_
  have hs_a1 : Sees w0 _ _ _ _ := hpre.1
  have hs_a2 : Sees w0 _ _ _ _ := hpre.2
  refine JC.seq ?_
  refine JC.region ?_
  refine JL.op rfl (JO.box (cs := [.slice a1 n1 c1, .slice a2 n2 c2]) rfl rfl) ?_
  rintro _ _ ⟨b_1, rfl, rfl⟩
  refine JL.pure rfl (PO.assign (v := .int .i64 0) rfl) ?_
  refine JL.nil ?_
  refine JQ.seq ?_
  refine JC.seq ?_
  refine JC.region ?_
  refine JL.pure rfl (PO.fieldAddr fo30_0 rfl) ?_
  refine JL.ld rfl (LO.load1 0 (v := .slice a1 n1 c1) rfl rfl Tryz.isAgg23 rfl) ?_
  refine JL.pure rfl (PO.move (v := .int .i64 k) rfl) ?_
  refine JL.op rfl (JO.call [] Tryz.call246 rfl (C_heldStringSI a1 n1 c1 r k (by first | rfl | exact markS_len _ _ | exact markC_len _ _ | assumption) (by omega) (by omega)) rfl (fun w hw => hw.seeOut_ hs_a1 (fun _ _ => List.not_mem_nil))) ?_
  rintro _ _ ⟨_, ⟨rfl, rfl⟩, rfl⟩
  have hp1 := heldS_pos r (k).toNat
  have hq1 := heldS_lo r (k).toNat
  refine JL.pure rfl (PO.assign (v := .int .i64 (heldS r (k).toNat)) rfl) ?_
  refine JL.nil ?_
  refine JQ.seq ?_
  refine JC.seq ?_
  refine JC.seq ?_
  refine JC.region ?_
  refine JL.pure rfl (PO.move (v := .int .i64 (heldS r (k).toNat)) rfl) ?_
  refine JL.pure rfl (PO.lss rfl rfl) ?_
  refine JL.nil ?_
  refine JQ.seq ?_
  by_cases h_2 : (heldS r (k).toNat) < 0
  · skip
    refine JC.condT (congrArg Value.bool (decide_eq_true h_2)) ?_
    refine JC.seq ?_
    refine JC.region ?_
    refine JL.pure rfl (PO.assign (v := .int .i64 (-1)) rfl) ?_
    refine JL.nil ?_
    refine JQ.seq ?_
    refine JC.ret ?_
    refine JQ.thenRet ?_
    refine Done.one (.inl rfl) rfl (RV.tmp (v := .int .i64 (-1)) rfl) (List.nil_sublist _) ?_
    refine ⟨?_, rfl⟩
    simp only [heldT]
    congr 1
    first | rw [if_pos (by omega)] | (rw [if_neg (by omega)]; first | rw [if_pos (by omega)] | rw [if_neg (by omega)])
  · skip
    refine JC.condF (congrArg Value.bool (decide_eq_false h_2)) ?_
    refine JC.skip ?_
    refine JQ.seq ?_
    refine JC.seq ?_
    refine JC.region ?_
    refine JL.pure rfl (PO.fieldAddr fo30_1 rfl) ?_
    refine JL.ld rfl (LO.load1 0 (v := .slice a2 n2 c2) rfl rfl Tryz.isAgg23 rfl) ?_
    refine JL.pure rfl (PO.move (v := .int .i64 (heldS r (k).toNat)) rfl) ?_
    refine JL.op rfl (JO.call [] Tryz.call246 rfl (C_heldStringSI a2 n2 c2 w (heldS r (k).toNat) (by first | rfl | exact markS_len _ _ | exact markC_len _ _ | assumption) (by omega) (by omega)) rfl (fun w hw => hw.seeOut_ hs_a2 (fun _ _ => List.not_mem_nil))) ?_
    rintro _ _ ⟨_, ⟨rfl, rfl⟩, rfl⟩
    have hp2 := heldS_pos w (heldS r (k).toNat).toNat
    have hq2 := heldS_lo w (heldS r (k).toNat).toNat
    refine JL.pure rfl (PO.assign (v := .int .i64 (heldS w (heldS r (k).toNat).toNat)) rfl) ?_
    refine JL.nil ?_
    refine JQ.seq ?_
    refine JC.seq ?_
    refine JC.seq ?_
    refine JC.region ?_
    refine JL.pure rfl (PO.move (v := .int .i64 (heldS w (heldS r (k).toNat).toNat)) rfl) ?_
    refine JL.pure rfl (PO.lss rfl rfl) ?_
    refine JL.nil ?_
    refine JQ.seq ?_
    by_cases h_3 : (heldS w (heldS r (k).toNat).toNat) < 0
    · skip
      refine JC.condT (congrArg Value.bool (decide_eq_true h_3)) ?_
      refine JC.seq ?_
      refine JC.region ?_
      refine JL.pure rfl (PO.assign (v := .int .i64 (-1)) rfl) ?_
      refine JL.nil ?_
      refine JQ.seq ?_
      refine JC.ret ?_
      refine JQ.thenRet ?_
      refine Done.one (.inl rfl) rfl (RV.tmp (v := .int .i64 (-1)) rfl) (List.nil_sublist _) ?_
      refine ⟨?_, rfl⟩
      simp only [heldT]
      congr 1
      first | rw [if_pos (by omega)] | (rw [if_neg (by omega)]; first | rw [if_pos (by omega)] | rw [if_neg (by omega)])
    · skip
      refine JC.condF (congrArg Value.bool (decide_eq_false h_3)) ?_
      refine JC.skip ?_
      refine JQ.seq ?_
      refine JC.seq ?_
      refine JC.region ?_
      refine JL.pure rfl (PO.move (v := .int .i64 (heldS w (heldS r (k).toNat).toNat)) rfl) ?_
      refine JL.pure rfl (PO.assign (v := .int .i64 (heldS w (heldS r (k).toNat).toNat)) rfl) ?_
      refine JL.nil ?_
      refine JQ.seq ?_
      refine JC.ret ?_
      refine Done.one (.inl rfl) rfl (RV.tmp (v := .int .i64 (heldS w (heldS r (k).toNat).toNat)) rfl) (List.nil_sublist _) ?_
      refine ⟨?_, rfl⟩
      simp only [heldT]
      congr 1
      first | rw [if_pos (by omega)] | (rw [if_neg (by omega)]; first | rw [if_pos (by omega)] | rw [if_neg (by omega)])

theorem heldT_pos (r w : List Str) (k : Int) (h0 : 0 ≤ k) : (heldT r w k = -1 ∨ k ≤ heldT r w k) ∧ heldT r w k ≤ k + r.length + w.length := by
  have h1 := heldS_pos r k.toNat
  have h2 := heldS_lo r k.toNat
  have h3 := heldS_pos w (heldS r k.toNat).toNat
  have h4 := heldS_lo w (heldS r k.toNat).toNat
  unfold heldT
  split
  · omega
  · split <;> omega

theorem C_heldMach (a0 a1 a2 : Option Addr) (n0 n1 n2 c0_ c1 c2 : Nat) (s : List Cell) (r w : List Str) (k : Int) (hs : s.length = n0) (hr : r.length = n1) (hw_ : w.length = n2) (h0 : 0 < k) (h1 : k + 2 * s.length + r.length + w.length ≤ 100000000) :
    Ct Tryz.prog 21 [.agg #[.slice a0 n0 c0_, .slice a1 n1 c1, .slice a2 n2 c2], .int .i64 k] [] (fun w_ => Sees w_ (.slice a0 n0 c0_) 2 n0 (s.flatMap encC) ∧ Sees w_ (.slice a1 n1 c1) 1 n1 (r.map str) ∧ Sees w_ (.slice a2 n2 c2) 1 n2 (w.map str)) (fun v A' => v = .int .i64 (heldM s r w k) ∧ A' = []) := by
  refine Ct.intro Tryz.func21 rfl Tryz.ntmps21 (Nat.le_of_ble_eq_true rfl) fun w0 hpre => ?_
  have hs_a0 : Sees w0 _ _ _ _ := hpre.1
  have hs_a1 : Sees w0 _ _ _ _ := hpre.2.1
  have hs_a2 : Sees w0 _ _ _ _ := hpre.2.2
  refine JC.seq ?_
  refine JC.region ?_
  refine JL.op rfl (JO.box (cs := [.slice a0 n0 c0_, .slice a1 n1 c1, .slice a2 n2 c2]) rfl rfl) ?_
  rintro _ _ ⟨b_1, rfl, rfl⟩
  refine JL.pure rfl (PO.assign (v := .int .i64 0) rfl) ?_
  refine JL.nil ?_
  refine JQ.seq ?_
  refine JC.seq ?_
  refine JC.region ?_
  refine JL.pure rfl (PO.fieldAddr fo32_0 rfl) ?_
  refine JL.ld rfl (LO.load1 0 (v := .slice a0 n0 c0_) rfl rfl Tryz.isAgg29 rfl) ?_
  refine JL.pure rfl (PO.move (v := .int .i64 k) rfl) ?_
  refine JL.op rfl (JO.call [] Tryz.call133 rfl (C_heldCellSI a0 n0 c0_ s k (by first | rfl | exact markS_len _ _ | exact markC_len _ _ | assumption) (by omega) (by omega)) rfl (fun w hw => hw.seeOut_ hs_a0 (fun _ _ => List.not_mem_nil))) ?_
  rintro _ _ ⟨_, ⟨rfl, rfl⟩, rfl⟩
  have hp1 := heldC_pos s (k).toNat
  have hq1 := heldC_lo s (k).toNat
  refine JL.pure rfl (PO.assign (v := .int .i64 (heldC s (k).toNat)) rfl) ?_
  refine JL.nil ?_
  refine JQ.seq ?_
  refine JC.seq ?_
  refine JC.seq ?_
  refine JC.region ?_
  refine JL.pure rfl (PO.move (v := .int .i64 (heldC s (k).toNat)) rfl) ?_
  refine JL.pure rfl (PO.lss rfl rfl) ?_
  refine JL.nil ?_
  refine JQ.seq ?_
  by_cases h_2 : (heldC s (k).toNat) < 0
  · skip
    refine JC.condT (congrArg Value.bool (decide_eq_true h_2)) ?_
    refine JC.seq ?_
    refine JC.region ?_
    refine JL.pure rfl (PO.assign (v := .int .i64 (-1)) rfl) ?_
    refine JL.nil ?_
    refine JQ.seq ?_
    refine JC.ret ?_
    refine JQ.thenRet ?_
    refine Done.one (.inl rfl) rfl (RV.tmp (v := .int .i64 (-1)) rfl) (List.nil_sublist _) ?_
    refine ⟨?_, rfl⟩
    simp only [heldM]
    congr 1
    first | rw [if_pos (by omega)] | (rw [if_neg (by omega)]; first | rw [if_pos (by omega)] | rw [if_neg (by omega)])
  · skip
    refine JC.condF (congrArg Value.bool (decide_eq_false h_2)) ?_
    refine JC.skip ?_
    refine JQ.seq ?_
    refine JC.seq ?_
    refine JC.region ?_
    refine JL.pure rfl (PO.fieldAddr fo32_1 rfl) ?_
    refine JL.ld rfl (LO.loadK 0 (vs := [.slice a1 n1 c1, .slice a2 n2 c2]) rfl rfl Tryz.isAgg30 Tryz.sizeOf30 rfl rfl) ?_
    refine JL.pure rfl (PO.move (v := .int .i64 (heldC s (k).toNat)) rfl) ?_
    refine JL.op rfl (JO.call [] Tryz.call134 rfl (C_heldTouch a1 a2 n1 n2 c1 c2 r w (heldC s (k).toNat) (by first | rfl | exact markS_len _ _ | exact markC_len _ _ | assumption) (by first | rfl | exact markS_len _ _ | exact markC_len _ _ | assumption) (by omega) (by omega)) rfl (fun w hw => ⟨hw.seeOut_ hs_a1 (fun _ _ => List.not_mem_nil), hw.seeOut_ hs_a2 (fun _ _ => List.not_mem_nil)⟩)) ?_
    rintro _ _ ⟨_, ⟨rfl, rfl⟩, rfl⟩
    have hp2 := heldT_pos r w (heldC s (k).toNat) (by omega)
    refine JL.pure rfl (PO.assign (v := .int .i64 (heldT r w (heldC s (k).toNat))) rfl) ?_
    refine JL.nil ?_
    refine JQ.seq ?_
    refine JC.seq ?_
    refine JC.seq ?_
    refine JC.region ?_
    refine JL.pure rfl (PO.move (v := .int .i64 (heldT r w (heldC s (k).toNat))) rfl) ?_
    refine JL.pure rfl (PO.lss rfl rfl) ?_
    refine JL.nil ?_
    refine JQ.seq ?_
    by_cases h_3 : (heldT r w (heldC s (k).toNat)) < 0
    · skip
      refine JC.condT (congrArg Value.bool (decide_eq_true h_3)) ?_
      refine JC.seq ?_
      refine JC.region ?_
      refine JL.pure rfl (PO.assign (v := .int .i64 (-1)) rfl) ?_
      refine JL.nil ?_
      refine JQ.seq ?_
      refine JC.ret ?_
      refine JQ.thenRet ?_
      refine Done.one (.inl rfl) rfl (RV.tmp (v := .int .i64 (-1)) rfl) (List.nil_sublist _) ?_
      refine ⟨?_, rfl⟩
      simp only [heldM]
      congr 1
      first | rw [if_pos (by omega)] | (rw [if_neg (by omega)]; first | rw [if_pos (by omega)] | rw [if_neg (by omega)])
    · skip
      refine JC.condF (congrArg Value.bool (decide_eq_false h_3)) ?_
      refine JC.skip ?_
      refine JQ.seq ?_
      refine JC.seq ?_
      refine JC.region ?_
      refine JL.pure rfl (PO.move (v := .int .i64 (heldT r w (heldC s (k).toNat))) rfl) ?_
      refine JL.pure rfl (PO.assign (v := .int .i64 (heldT r w (heldC s (k).toNat))) rfl) ?_
      refine JL.nil ?_
      refine JQ.seq ?_
      refine JC.ret ?_
      refine Done.one (.inl rfl) rfl (RV.tmp (v := .int .i64 (heldT r w (heldC s (k).toNat))) rfl) (List.nil_sublist _) ?_
      refine ⟨?_, rfl⟩
      simp only [heldM]
      congr 1
      first | rw [if_pos (by omega)] | (rw [if_neg (by omega)]; first | rw [if_pos (by omega)] | rw [if_neg (by omega)])

end Go.Proofs.YtenfajgpdhgknaaGreatDoor
