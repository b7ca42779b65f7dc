/-
  Drawing machines with names, files, pipes, processes, signals, output (part 26).
-/
import Derived.Test.YtenfajgpdhgknaaGreatDoorS22MACH
import Derived.Test.YtenfajgpdhgknaaGreatDoorS18HEX
import Derived.Test.YtenfajgpdhgknaaGreatDoorS20FILES
set_option linter.unusedSimpArgs false
set_option linter.unusedVariables false
set_option linter.unnecessarySimpa false
namespace Go.Proofs.YtenfajgpdhgknaaGreatDoor
open Go Go.RowKit
attribute [local irreducible] JL JC JQ JO LO PO JA JX Ct

theorem P_sizeFile (x : MA) (m : MS) {S T : Nat} (hk : m.ok S T) (hS : S ≤ 40000000) (hT : T ≤ 40000000) (id : Int) (hid : -9223372036854775808 ≤ id ∧ id ≤ 9223372036854775807) :
    Ct Tryz.prog 101 [mv x m, .int .i64 id] ([]) (fun w => seesM w x m) (fun v A' => ∃ x' m' r0, MS.sizeOf m id = (m', r0) ∧ m'.ok (S) (T + 1) ∧ (0 ≤ r0 ∧ r0 ≤ 999) ∧ v = .tuple #[mv x' m', .int .i64 r0] ∧ A' = mr x' m') := by
  refine Ct.intro Tryz.func101 rfl Tryz.ntmps101 (Nat.le_of_ble_eq_true rfl) fun w0 hpre => ?_
  have hs_x_a0 : Sees w0 _ _ _ _ := hpre.1
  have hs_x_a1 : Sees w0 _ _ _ _ := hpre.2.1
  have hs_x_a2 : Sees w0 _ _ _ _ := hpre.2.2
  refine JC.seq ?_
  refine JC.region ?_
  refine JL.op rfl (JO.box (cs := [.slice x.a0 m.s.length x.c0, .slice x.a1 m.r.length x.c1, .slice x.a2 m.w.length x.c2]) rfl rfl) ?_
  rintro _ _ ⟨b_1, rfl, rfl⟩
  refine JL.op rfl (JO.alloc (z := .agg #[.slice none 0 0, .slice none 0 0, .slice none 0 0]) (cs := [.slice none 0 0, .slice none 0 0, .slice none 0 0]) Tryz.zeroValue32 rfl) ?_
  rintro _ _ ⟨b_2, rfl, rfl⟩
  refine JL.pure rfl (PO.assign (v := .int .i64 0) rfl) ?_
  refine JL.nil ?_
  refine JQ.seq ?_
  refine JC.seq ?_
  refine JC.region ?_
  refine JL.ld rfl (LO.loadK 1 (vs := [.slice x.a0 m.s.length x.c0, .slice x.a1 m.r.length x.c1, .slice x.a2 m.w.length x.c2]) rfl rfl Tryz.isAgg32 Tryz.sizeOf32 rfl rfl) ?_
  refine JL.op rfl (JO.call [] Tryz.call127 rfl (N_clone x m hk (by omega) (by omega)) rfl (fun w hw => ⟨hw.seeOut_ hs_x_a0 (fun _ _ => List.not_mem_nil), hw.seeOut_ hs_x_a1 (fun _ _ => List.not_mem_nil), hw.seeOut_ hs_x_a2 (fun _ _ => List.not_mem_nil)⟩)) ?_
  rintro _ _ ⟨_, ⟨x_5, m_6, rfl, k_4, rfl, rfl⟩, rfl⟩
  refine JL.op rfl (JO.store 4 (vs := [.slice x_5.a0 m.s.length x_5.c0, .slice x_5.a1 m.r.length x_5.c1, .slice x_5.a2 m.w.length x_5.c2]) (cs' := [.slice x_5.a0 m.s.length x_5.c0, .slice x_5.a1 m.r.length x_5.c1, .slice x_5.a2 m.w.length x_5.c2]) rfl rfl rfl rfl Tryz.sizeOf32 rfl rfl (Nat.le_of_ble_eq_true rfl) rfl) ?_
  rintro _ _ rfl
  refine JL.nil ?_
  refine JQ.seq ?_
  refine JC.seq ?_
  refine JC.region ?_
  refine JL.pure rfl (PO.move (v := .int .i64 id) rfl) ?_
  refine JL.op rfl (JO.call [] Tryz.call205 rfl (N_sizeKey id (by omega)) rfl (fun _ _ => trivial)) ?_
  rintro _ _ ⟨_, ⟨u_9, e_7, f_10, rfl, rfl⟩, rfl⟩
  refine JL.op rfl (JO.call [4, 0, 0, 0] Tryz.call170 rfl (N_num b_1 x_5 m k_4 (by omega) (by omega) u_9) rfl (fun _ _ => trivial)) ?_
  rintro _ _ ⟨_, ⟨x_13, m_14, n_15, e_11, k_12, f_16, rfl, rfl⟩, rfl⟩
  refine JL.pure rfl (PO.assign (v := .int .i64 n_15) rfl) ?_
  refine JL.nil ?_
  refine JQ.seq ?_
  refine JC.seq ?_
  refine JC.region ?_
  refine JL.ld rfl (LO.loadK 0 (vs := [.slice x_13.a0 m_14.s.length x_13.c0, .slice x_13.a1 m_14.r.length x_13.c1, .slice x_13.a2 m_14.w.length x_13.c2]) rfl rfl Tryz.isAgg32 Tryz.sizeOf32 rfl rfl) ?_
  refine JL.pure rfl (PO.move (v := .int .i64 n_15) rfl) ?_
  refine JL.op rfl (JO.store 4 (vs := [.slice x_13.a0 m_14.s.length x_13.c0, .slice x_13.a1 m_14.r.length x_13.c1, .slice x_13.a2 m_14.w.length x_13.c2]) (cs' := [.slice x_13.a0 m_14.s.length x_13.c0, .slice x_13.a1 m_14.r.length x_13.c1, .slice x_13.a2 m_14.w.length x_13.c2]) rfl rfl rfl rfl Tryz.sizeOf32 rfl rfl (Nat.le_of_ble_eq_true rfl) rfl) ?_
  rintro _ _ rfl
  refine JL.pure rfl (PO.assign (v := .int .i64 n_15) rfl) ?_
  refine JL.nil ?_
  refine JQ.seq ?_
  refine JC.ret ?_
  refine JQ.perm (pick_perm [1, 1, 1] (A := [rC x_13.a0 x_13.c0 m_14.s, rS x_13.a1 x_13.c1 m_14.r, rS x_13.a2 x_13.c2 m_14.w]) (F := [mb b_1 x_13 m_14, mb b_2 x_13 m_14]) rfl).symm ?_
  refine Done.two (.inl rfl) rfl (RV.cell1 (LO.loadK 4 (vs := [.slice x_13.a0 m_14.s.length x_13.c0, .slice x_13.a1 m_14.r.length x_13.c1, .slice x_13.a2 m_14.w.length x_13.c2]) rfl rfl Tryz.isAgg32 Tryz.sizeOf32 rfl rfl) ⟨_, rfl⟩) (RV.tmp (v := .int .i64 n_15) rfl) (List.sublist_append_left [rC x_13.a0 x_13.c0 m_14.s, rS x_13.a1 x_13.c1 m_14.r, rS x_13.a2 x_13.c2 m_14.w] [mb b_1 x_13 m_14, mb b_2 x_13 m_14]) ?_
  exact ⟨x_13, m_14, n_15, (by simp only [MS.sizeOf, e_7, e_11, if_true, if_false, Bool.false_eq_true, Bool.not_true, Bool.not_false]; (repeat (first | rw [if_pos (by omega)] | rw [if_neg (by omega)])); all_goals (first | rfl | simp only [if_true, if_false, Bool.false_eq_true, Bool.not_true, Bool.not_false, e_7, e_11])), (k_12.mono (by omega) (by omega)), (by first | omega | (simp only [List.length_append, List.length_cons, List.length_nil, List.length_take, List.length_drop]; omega)), rfl, rfl⟩

theorem Q_sizeFile (x : MA) (m : MS) {S T : Nat} (hk : m.ok S T) (hS : S ≤ 40000000) (hT : T ≤ 40000000) (id : Int) (hid : -9223372036854775808 ≤ id ∧ id ≤ 9223372036854775807) :
    Ct Tryz.prog 102 [mv x m, .int .i64 id] ([]) (fun w => seesM w x m) (fun v A' => ∃ x' m' r0, MS.sizeOf m id = (m', r0) ∧ m'.ok (S) (T + 1) ∧ (0 ≤ r0 ∧ r0 ≤ 999) ∧ v = .tuple #[mv x' m', .int .i64 r0] ∧ A' = mr x' m') := by
  refine Ct.intro Tryz.func102 rfl Tryz.ntmps102 (Nat.le_of_ble_eq_true rfl) fun w0 hpre => ?_
  have hs_x_a0 : Sees w0 _ _ _ _ := hpre.1
  have hs_x_a1 : Sees w0 _ _ _ _ := hpre.2.1
  have hs_x_a2 : Sees w0 _ _ _ _ := hpre.2.2
  refine JC.seq ?_
  refine JC.region ?_
  refine JL.op rfl (JO.box (cs := [.slice x.a0 m.s.length x.c0, .slice x.a1 m.r.length x.c1, .slice x.a2 m.w.length x.c2]) rfl rfl) ?_
  rintro _ _ ⟨b_1, rfl, rfl⟩
  refine JL.op rfl (JO.alloc (z := .agg #[.slice none 0 0, .slice none 0 0, .slice none 0 0]) (cs := [.slice none 0 0, .slice none 0 0, .slice none 0 0]) Tryz.zeroValue32 rfl) ?_
  rintro _ _ ⟨b_2, rfl, rfl⟩
  refine JL.pure rfl (PO.assign (v := .int .i64 0) rfl) ?_
  refine JL.nil ?_
  refine JQ.seq ?_
  refine JC.seq ?_
  refine JC.region ?_
  refine JL.ld rfl (LO.loadK 1 (vs := [.slice x.a0 m.s.length x.c0, .slice x.a1 m.r.length x.c1, .slice x.a2 m.w.length x.c2]) rfl rfl Tryz.isAgg32 Tryz.sizeOf32 rfl rfl) ?_
  refine JL.op rfl (JO.call [] Tryz.call124 rfl (N_copy x m hk (by omega) (by omega)) rfl (fun w hw => ⟨hw.seeOut_ hs_x_a0 (fun _ _ => List.not_mem_nil), hw.seeOut_ hs_x_a1 (fun _ _ => List.not_mem_nil), hw.seeOut_ hs_x_a2 (fun _ _ => List.not_mem_nil)⟩)) ?_
  rintro _ _ ⟨_, ⟨x_5, m_6, rfl, k_4, rfl, rfl⟩, rfl⟩
  refine JL.pure rfl (PO.move (v := .int .i64 id) rfl) ?_
  refine JL.op rfl (JO.call [0, 0, 0] Tryz.call206 rfl (M_sizeFile x_5 m k_4 (by omega) (by omega) id (by omega)) rfl (fun _ _ => trivial)) ?_
  rintro _ _ ⟨_, ⟨x_9, m_10, n_11, e_7, k_8, f_12, rfl, rfl⟩, rfl⟩
  refine JL.pure rfl (PO.extract (v := mv x_9 m_10) rfl rfl) ?_
  refine JL.pure rfl (PO.extract (v := .int .i64 n_11) rfl rfl) ?_
  refine JL.op rfl (JO.store 3 (vs := [.slice x_9.a0 m_10.s.length x_9.c0, .slice x_9.a1 m_10.r.length x_9.c1, .slice x_9.a2 m_10.w.length x_9.c2]) (cs' := [.slice x_9.a0 m_10.s.length x_9.c0, .slice x_9.a1 m_10.r.length x_9.c1, .slice x_9.a2 m_10.w.length x_9.c2]) rfl rfl rfl rfl Tryz.sizeOf32 rfl rfl (Nat.le_of_ble_eq_true rfl) rfl) ?_
  rintro _ _ rfl
  refine JL.pure rfl (PO.assign (v := .int .i64 n_11) rfl) ?_
  refine JL.nil ?_
  refine JQ.seq ?_
  refine JC.ret ?_
  refine Done.two (.inl rfl) rfl (RV.cell1 (LO.loadK 3 (vs := [.slice x_9.a0 m_10.s.length x_9.c0, .slice x_9.a1 m_10.r.length x_9.c1, .slice x_9.a2 m_10.w.length x_9.c2]) rfl rfl Tryz.isAgg32 Tryz.sizeOf32 rfl rfl) ⟨_, rfl⟩) (RV.tmp (v := .int .i64 n_11) rfl) (List.sublist_append_left [rC x_9.a0 x_9.c0 m_10.s, rS x_9.a1 x_9.c1 m_10.r, rS x_9.a2 x_9.c2 m_10.w] [mb b_2 x_9 m_10, mb b_1 x m]) ?_
  exact ⟨x_9, m_10, n_11, (by simp only [if_true, e_7, if_true, if_false, Bool.false_eq_true, Bool.not_true, Bool.not_false]; (repeat (first | rw [if_pos (by omega)] | rw [if_neg (by omega)])); all_goals (first | rfl | simp only [if_true, if_false, Bool.false_eq_true, Bool.not_true, Bool.not_false, e_7])), (k_8.mono (by omega) (by omega)), (by first | omega | (simp only [List.length_append, List.length_cons, List.length_nil, List.length_take, List.length_drop]; omega)), rfl, rfl⟩

theorem P_blockOf (x : MA) (m : MS) {S T : Nat} (hk : m.ok S T) (hS : S ≤ 40000000) (hT : T ≤ 40000000) (id : Int) (place : Int) (hid : -9223372036854775808 ≤ id ∧ id ≤ 9223372036854775807) (hplace : -9223372036854775808 ≤ place ∧ place ≤ 9223372036854775807) :
    Ct Tryz.prog 105 [mv x m, .int .i64 id, .int .i64 place] ([]) (fun w => seesM w x m ∧ HexOk w) (fun v A' => ∃ x' m' r0, MS.block m id place = (m', r0) ∧ m'.ok (S) (T + 1) ∧ r0.length ≤ 20000 ∧ v = .tuple #[mv x' m', str r0] ∧ A' = mr x' m') := by
  refine Ct.introL Tryz.func105 rfl Tryz.ntmps105 (Nat.le_of_ble_eq_true rfl) fun w0 hpre hlow => ?_
  have hs_x_a0 : Sees w0 _ _ _ _ := hpre.1.1
  have hs_x_a1 : Sees w0 _ _ _ _ := hpre.1.2.1
  have hs_x_a2 : Sees w0 _ _ _ _ := hpre.1.2.2
  refine JC.seq ?_
  refine JC.region ?_
  refine JL.op rfl (JO.box (cs := [.slice x.a0 m.s.length x.c0, .slice x.a1 m.r.length x.c1, .slice x.a2 m.w.length x.c2]) rfl rfl) ?_
  rintro _ _ ⟨b_1, rfl, rfl⟩
  refine JL.op rfl (JO.alloc (z := .agg #[.slice none 0 0, .slice none 0 0, .slice none 0 0]) (cs := [.slice none 0 0, .slice none 0 0, .slice none 0 0]) Tryz.zeroValue32 rfl) ?_
  rintro _ _ ⟨b_2, rfl, rfl⟩
  refine JL.pure rfl (PO.assign (v := str []) rfl) ?_
  refine JL.nil ?_
  refine JQ.seq ?_
  refine JC.seq ?_
  refine JC.region ?_
  refine JL.ld rfl (LO.loadK 1 (vs := [.slice x.a0 m.s.length x.c0, .slice x.a1 m.r.length x.c1, .slice x.a2 m.w.length x.c2]) rfl rfl Tryz.isAgg32 Tryz.sizeOf32 rfl rfl) ?_
  refine JL.op rfl (JO.call [] Tryz.call127 rfl (N_clone x m hk (by omega) (by omega)) rfl (fun w hw => ⟨hw.seeOut_ hs_x_a0 (fun _ _ => List.not_mem_nil), hw.seeOut_ hs_x_a1 (fun _ _ => List.not_mem_nil), hw.seeOut_ hs_x_a2 (fun _ _ => List.not_mem_nil)⟩)) ?_
  rintro _ _ ⟨_, ⟨x_5, m_6, rfl, k_4, rfl, rfl⟩, rfl⟩
  refine JL.op rfl (JO.store 4 (vs := [.slice x_5.a0 m.s.length x_5.c0, .slice x_5.a1 m.r.length x_5.c1, .slice x_5.a2 m.w.length x_5.c2]) (cs' := [.slice x_5.a0 m.s.length x_5.c0, .slice x_5.a1 m.r.length x_5.c1, .slice x_5.a2 m.w.length x_5.c2]) rfl rfl rfl rfl Tryz.sizeOf32 rfl rfl (Nat.le_of_ble_eq_true rfl) rfl) ?_
  rintro _ _ rfl
  refine JL.nil ?_
  refine JQ.seq ?_
  refine JC.seq ?_
  refine JC.region ?_
  refine JL.pure rfl (PO.move (v := .int .i64 id) rfl) ?_
  refine JL.pure rfl (PO.move (v := .int .i64 place) rfl) ?_
  refine JL.op rfl (JO.call [4, 0, 0, 0] Tryz.call207 rfl (N_block b_1 x_5 m k_4 (by omega) (by omega) id place (by omega) (by omega)) rfl (fun w hw => hw.hex hlow hpre.2)) ?_
  rintro _ _ ⟨_, ⟨x_9, m_10, u_11, e_7, k_8, f_12, rfl, rfl⟩, rfl⟩
  refine JL.pure rfl (PO.assign (v := str u_11) rfl) ?_
  refine JL.nil ?_
  refine JQ.seq ?_
  refine JC.seq ?_
  refine JC.region ?_
  refine JL.ld rfl (LO.loadK 0 (vs := [.slice x_9.a0 m_10.s.length x_9.c0, .slice x_9.a1 m_10.r.length x_9.c1, .slice x_9.a2 m_10.w.length x_9.c2]) rfl rfl Tryz.isAgg32 Tryz.sizeOf32 rfl rfl) ?_
  refine JL.pure rfl (PO.move (v := str u_11) rfl) ?_
  refine JL.op rfl (JO.store 4 (vs := [.slice x_9.a0 m_10.s.length x_9.c0, .slice x_9.a1 m_10.r.length x_9.c1, .slice x_9.a2 m_10.w.length x_9.c2]) (cs' := [.slice x_9.a0 m_10.s.length x_9.c0, .slice x_9.a1 m_10.r.length x_9.c1, .slice x_9.a2 m_10.w.length x_9.c2]) rfl rfl rfl rfl Tryz.sizeOf32 rfl rfl (Nat.le_of_ble_eq_true rfl) rfl) ?_
  rintro _ _ rfl
  refine JL.pure rfl (PO.assign (v := str u_11) rfl) ?_
  refine JL.nil ?_
  refine JQ.seq ?_
  refine JC.ret ?_
  refine JQ.perm (pick_perm [1, 1, 1] (A := [rC x_9.a0 x_9.c0 m_10.s, rS x_9.a1 x_9.c1 m_10.r, rS x_9.a2 x_9.c2 m_10.w]) (F := [mb b_1 x_9 m_10, mb b_2 x_9 m_10]) rfl).symm ?_
  refine Done.two (.inl rfl) rfl (RV.cell1 (LO.loadK 4 (vs := [.slice x_9.a0 m_10.s.length x_9.c0, .slice x_9.a1 m_10.r.length x_9.c1, .slice x_9.a2 m_10.w.length x_9.c2]) rfl rfl Tryz.isAgg32 Tryz.sizeOf32 rfl rfl) ⟨_, rfl⟩) (RV.tmp (v := str u_11) rfl) (List.sublist_append_left [rC x_9.a0 x_9.c0 m_10.s, rS x_9.a1 x_9.c1 m_10.r, rS x_9.a2 x_9.c2 m_10.w] [mb b_1 x_9 m_10, mb b_2 x_9 m_10]) ?_
  exact ⟨x_9, m_10, u_11, (by simp only [if_true, e_7, if_true, if_false, Bool.false_eq_true, Bool.not_true, Bool.not_false]; (repeat (first | rw [if_pos (by omega)] | rw [if_neg (by omega)])); all_goals (first | rfl | simp only [if_true, if_false, Bool.false_eq_true, Bool.not_true, Bool.not_false, e_7])), (k_8.mono (by omega) (by omega)), (by first | omega | (simp only [List.length_append, List.length_cons, List.length_nil, List.length_take, List.length_drop]; omega)), rfl, rfl⟩

theorem Q_blockOf (x : MA) (m : MS) {S T : Nat} (hk : m.ok S T) (hS : S ≤ 40000000) (hT : T ≤ 40000000) (id : Int) (place : Int) (hid : -9223372036854775808 ≤ id ∧ id ≤ 9223372036854775807) (hplace : -9223372036854775808 ≤ place ∧ place ≤ 9223372036854775807) :
    Ct Tryz.prog 106 [mv x m, .int .i64 id, .int .i64 place] ([]) (fun w => seesM w x m) (fun v A' => ∃ x' m' r0, MS.block m id place = (m', r0) ∧ m'.ok (S) (T + 1) ∧ r0.length ≤ 20000 ∧ v = .tuple #[mv x' m', str r0] ∧ A' = mr x' m') := by
  refine Ct.intro Tryz.func106 rfl Tryz.ntmps106 (Nat.le_of_ble_eq_true rfl) fun w0 hpre => ?_
  have hs_x_a0 : Sees w0 _ _ _ _ := hpre.1
  have hs_x_a1 : Sees w0 _ _ _ _ := hpre.2.1
  have hs_x_a2 : Sees w0 _ _ _ _ := hpre.2.2
  refine JC.seq ?_
  refine JC.region ?_
  refine JL.op rfl (JO.box (cs := [.slice x.a0 m.s.length x.c0, .slice x.a1 m.r.length x.c1, .slice x.a2 m.w.length x.c2]) rfl rfl) ?_
  rintro _ _ ⟨b_1, rfl, rfl⟩
  refine JL.op rfl (JO.alloc (z := .agg #[.slice none 0 0, .slice none 0 0, .slice none 0 0]) (cs := [.slice none 0 0, .slice none 0 0, .slice none 0 0]) Tryz.zeroValue32 rfl) ?_
  rintro _ _ ⟨b_2, rfl, rfl⟩
  refine JL.pure rfl (PO.assign (v := str []) rfl) ?_
  refine JL.nil ?_
  refine JQ.seq ?_
  refine JC.seq ?_
  refine JC.region ?_
  refine JL.ld rfl (LO.loadK 1 (vs := [.slice x.a0 m.s.length x.c0, .slice x.a1 m.r.length x.c1, .slice x.a2 m.w.length x.c2]) rfl rfl Tryz.isAgg32 Tryz.sizeOf32 rfl rfl) ?_
  refine JL.op rfl (JO.call [] Tryz.call124 rfl (N_copy x m hk (by omega) (by omega)) rfl (fun w hw => ⟨hw.seeOut_ hs_x_a0 (fun _ _ => List.not_mem_nil), hw.seeOut_ hs_x_a1 (fun _ _ => List.not_mem_nil), hw.seeOut_ hs_x_a2 (fun _ _ => List.not_mem_nil)⟩)) ?_
  rintro _ _ ⟨_, ⟨x_5, m_6, rfl, k_4, rfl, rfl⟩, rfl⟩
  refine JL.pure rfl (PO.move (v := .int .i64 id) rfl) ?_
  refine JL.pure rfl (PO.move (v := .int .i64 place) rfl) ?_
  refine JL.op rfl (JO.call [0, 0, 0] Tryz.call208 rfl (M_block x_5 m k_4 (by omega) (by omega) id place (by omega) (by omega)) rfl (fun _ _ => trivial)) ?_
  rintro _ _ ⟨_, ⟨x_9, m_10, u_11, e_7, k_8, f_12, rfl, rfl⟩, rfl⟩
  refine JL.pure rfl (PO.extract (v := mv x_9 m_10) rfl rfl) ?_
  refine JL.pure rfl (PO.extract (v := str u_11) rfl rfl) ?_
  refine JL.op rfl (JO.store 3 (vs := [.slice x_9.a0 m_10.s.length x_9.c0, .slice x_9.a1 m_10.r.length x_9.c1, .slice x_9.a2 m_10.w.length x_9.c2]) (cs' := [.slice x_9.a0 m_10.s.length x_9.c0, .slice x_9.a1 m_10.r.length x_9.c1, .slice x_9.a2 m_10.w.length x_9.c2]) rfl rfl rfl rfl Tryz.sizeOf32 rfl rfl (Nat.le_of_ble_eq_true rfl) rfl) ?_
  rintro _ _ rfl
  refine JL.pure rfl (PO.assign (v := str u_11) rfl) ?_
  refine JL.nil ?_
  refine JQ.seq ?_
  refine JC.ret ?_
  refine Done.two (.inl rfl) rfl (RV.cell1 (LO.loadK 3 (vs := [.slice x_9.a0 m_10.s.length x_9.c0, .slice x_9.a1 m_10.r.length x_9.c1, .slice x_9.a2 m_10.w.length x_9.c2]) rfl rfl Tryz.isAgg32 Tryz.sizeOf32 rfl rfl) ⟨_, rfl⟩) (RV.tmp (v := str u_11) rfl) (List.sublist_append_left [rC x_9.a0 x_9.c0 m_10.s, rS x_9.a1 x_9.c1 m_10.r, rS x_9.a2 x_9.c2 m_10.w] [mb b_2 x_9 m_10, mb b_1 x m]) ?_
  exact ⟨x_9, m_10, u_11, (by simp only [if_true, e_7, if_true, if_false, Bool.false_eq_true, Bool.not_true, Bool.not_false]; (repeat (first | rw [if_pos (by omega)] | rw [if_neg (by omega)])); all_goals (first | rfl | simp only [if_true, if_false, Bool.false_eq_true, Bool.not_true, Bool.not_false, e_7])), (k_8.mono (by omega) (by omega)), (by first | omega | (simp only [List.length_append, List.length_cons, List.length_nil, List.length_take, List.length_drop]; omega)), rfl, rfl⟩

theorem D_mach07 (qb : Nat) (qa : Option Addr) (qc : Nat) (ql : Str) (qp : Nat) (qs : Int) (hql : ql.length ≤ 1048576) (hqp : qp ≤ ql.length)  :
    Ct Tryz.prog 200 [.pointer (some ⟨qb, 0, none⟩)] [cb qb qa qc ql qp qs] (fun w => seesC w qa qc ql [cb qb qa qc ql qp qs]) (fun v A' => ∃ qp' qs' r0x r0, qp' ≤ ql.length ∧ r0.ok (62) (160) ∧ v = mv r0x r0 ∧ A' = cb qb qa qc ql qp' qs' :: mr r0x r0) := by
  refine Ct.intro Tryz.func200 rfl Tryz.ntmps200 (Nat.le_of_ble_eq_true rfl) fun w0 hpre => ?_
  have hs_qa : Sees w0 _ _ _ _ := hpre.1
  refine JC.seq ?_
  refine JC.region ?_
  refine JL.op rfl (JO.alloc (z := .agg #[.slice none 0 0, .slice none 0 0, .slice none 0 0]) (cs := [.slice none 0 0, .slice none 0 0, .slice none 0 0]) Tryz.zeroValue32 rfl) ?_
  rintro _ _ ⟨b_1, rfl, rfl⟩
  refine JL.nil ?_
  refine JQ.seq ?_
  refine JC.seq ?_
  refine JC.region ?_
  refine JL.op rfl (JO.buildSlice (ps := []) (cur := #[]) Tryz.underlying29 Tryz.sizeOf113 Tryz.zeroValue113 rfl (by kernel_rfl) (by decide) (by decide)) ?_
  rintro _ _ ⟨a_2, rfl, rfl⟩
  refine JL.op rfl (JO.call [] Tryz.call147 rfl (D_machOf a_2 0 ([] : List Cell) (by first | omega | simp) 0 ⟨by simp, fun c hc => by cases hc⟩) rfl (fun w hw => hw.see (i := 0) rfl)) ?_
  rintro _ _ ⟨_, ⟨x_3, m_4, e_6, k_5, rfl, rfl⟩, rfl⟩
  refine JL.op rfl (JO.alloc (z := .agg #[.slice none 0 0, .slice none 0 0, .slice none 0 0]) (cs := [.slice none 0 0, .slice none 0 0, .slice none 0 0]) Tryz.zeroValue32 rfl) ?_
  rintro _ _ ⟨b_7, rfl, rfl⟩
  refine JL.op rfl (JO.store 0 (vs := [.slice x_3.a0 m_4.s.length x_3.c0, .slice x_3.a1 m_4.r.length x_3.c1, .slice x_3.a2 m_4.w.length x_3.c2]) (cs' := [.slice x_3.a0 m_4.s.length x_3.c0, .slice x_3.a1 m_4.r.length x_3.c1, .slice x_3.a2 m_4.w.length x_3.c2]) rfl rfl rfl rfl Tryz.sizeOf32 rfl rfl (Nat.le_of_ble_eq_true rfl) rfl) ?_
  rintro _ _ rfl
  refine JL.nil ?_
  refine JQ.seq ?_
  refine JC.seq ?_
  refine JC.region ?_
  refine JL.pure rfl (PO.assign (v := .int .i64 0) rfl) ?_
  refine JL.nil ?_
  refine JQ.seq ?_
  refine JC.seq ?_
  refine JC.seq ?_
  refine JC.region ?_
  refine JL.pure rfl (PO.assign (v := .int .i64 0) rfl) ?_
  refine JL.nil ?_
  refine JQ.seq ?_
  refine JC.block ?_
  refine JC.loop (fun k_ e_ L_ => ∃ i_ : Nat, ∃ p_q : Nat, ∃ s_q : Int, ∃ x1 : MA, ∃ mm : MS, ∃ z_ : Int, (p_q ≤ ql.length) ∧ (mm.ok (12 * i_) (31 * i_)) ∧ (i_ ≤ 5) ∧ (0 ≤ z_ ∧ z_ ≤ 999) ∧ e_ 0 = .pointer (some ⟨qb, 0, none⟩) ∧ e_ 2 = .pointer (some ⟨b_1, 0, none⟩) ∧ e_ 3 = .pointer (some ⟨b_7, 0, none⟩) ∧ e_ 4 = .int .i64 z_ ∧ e_ 5 = .int .i64 ((i_ : Nat) : Int) ∧ L_ = [mb b_7 x1 mm, rC x1.a0 x1.c0 mm.s, rS x1.a1 x1.c1 mm.r, rS x1.a2 x1.c2 mm.w, Res.row (.slice a_2 0 0) 113 2 0 (([] : List Cell).flatMap encC), bk b_1 32 [.slice none 0 0, .slice none 0 0, .slice none 0 0], cb qb qa qc ql p_q s_q] ∧ k_ = 6 - i_) _ ⟨0, qp, qs, x_3, m_4, 0, (by omega), (k_5.mono (by omega) (by omega)), (by omega), (by omega), rfl, rfl, rfl, rfl, rfl, rfl, rfl⟩ ?_
  rintro _ e_8 _ ⟨i_, p_q, s_q, x1, mm, z_, hpq_, hkmm, hi, hz, he_9, he_10, he_11, he_12, he_13, rfl, rfl⟩
  refine JC.seq ?_
  refine JC.seq ?_
  refine JC.region ?_
  refine JL.pure rfl (PO.move (v := .int .i64 ((i_ : Nat) : Int)) he_13) ?_
  refine JL.pure rfl (PO.move (v := .pointer (some ⟨qb, 0, none⟩)) he_9) ?_
  refine JL.op rfl (JO.call [6] Tryz.call173 rfl (D_below qb qa qc ql p_q s_q (by omega) (by omega) 5 (by omega)) rfl (fun w hw => ⟨hw.seeOut_ hs_qa (hpre.2), hw.apart hs_qa (hpre.2) (by simp)⟩)) ?_
  rintro _ _ ⟨_, ⟨qp_14, qs_15, n_17, fq_16, f_18, rfl, rfl⟩, rfl⟩
  refine JL.pure rfl (PO.lss rfl rfl) ?_
  refine JL.nil ?_
  refine JQ.seq ?_
  by_cases h_20 : ((i_ : Nat) : Int) < ((n_17 : Nat) : Int)
  · skip
    refine JC.condT (congrArg Value.bool (decide_eq_true h_20)) ?_
    refine JC.skip ?_
    refine JQ.seq ?_
    refine JC.seq ?_
    refine JC.block ?_
    refine JC.seq ?_
    refine JC.regionA [mb b_7 x1 mm] 13 mixed (by simp) ?_
    refine JA.take 0 rfl (by kernel_rfl) (NP.th (NP.bl (NP.th (NP.th (NP.bl (NP.th NP.body)))))) (by kernel_rfl) (by kernel_rfl) (by kernel_rfl) rfl (LO.loadK 0 (vs := [.slice x1.a0 mm.s.length x1.c0, .slice x1.a1 mm.r.length x1.c1, .slice x1.a2 mm.w.length x1.c2]) rfl he_11 Tryz.isAgg32 Tryz.sizeOf32 rfl rfl) ?_
    refine JA.takeP 1 rfl (by kernel_rfl) (NP.th (NP.bl (NP.th (NP.th (NP.bl (NP.th NP.body)))))) (by kernel_rfl) (by kernel_rfl) rfl (PO.move (v := .pointer (some ⟨qb, 0, none⟩)) he_9) ?_
    refine JA.takeP 2 rfl (by kernel_rfl) (NP.th (NP.bl (NP.th (NP.th (NP.bl (NP.th NP.body)))))) (by kernel_rfl) (by kernel_rfl) rfl (PO.move (v := .int .i64 z_) he_12) ?_
    refine JA.takeP 3 rfl (by kernel_rfl) (NP.th (NP.bl (NP.th (NP.th (NP.bl (NP.th NP.body)))))) (by kernel_rfl) (by kernel_rfl) rfl (PO.add (c := z_ + 1) rfl rfl (wr (by omega))) ?_
    refine JA.takeP 5 rfl (by kernel_rfl) (NP.th (NP.bl (NP.th (NP.th (NP.bl (NP.th NP.body)))))) (by kernel_rfl) (by kernel_rfl) rfl (PO.move (v := .pointer (some ⟨qb, 0, none⟩)) he_9) ?_
    refine JA.takeP 6 rfl (by kernel_rfl) (NP.th (NP.bl (NP.th (NP.th (NP.bl (NP.th NP.body)))))) (by kernel_rfl) (by kernel_rfl) rfl (PO.move (v := .pointer (some ⟨qb, 0, none⟩)) he_9) ?_
    refine JA.one (i := 4) (by kernel_rfl) ?_
    refine JX.op rfl rfl (JO.call [0] Tryz.call173 rfl (D_below qb qa qc ql qp_14 qs_15 (by omega) (by omega) (z_ + 1) (by omega)) rfl (fun w hw => ⟨hw.seeOut_ hs_qa (hpre.2), hw.apart hs_qa (hpre.2) (by simp)⟩)) ?_
    rintro _ _ ⟨_, ⟨qp_39, qs_40, n_42, fq_41, f_43, rfl, rfl⟩, rfl⟩
    refine ⟨(by simp), ?_⟩
    refine JA.one (i := 7) (by kernel_rfl) ?_
    refine JX.op rfl rfl (JO.call [0] Tryz.call173 rfl (D_below qb qa qc ql qp_39 qs_40 (by omega) (by omega) 14 (by omega)) rfl (fun w hw => ⟨hw.seeOut_ hs_qa (hpre.2), hw.apart hs_qa (hpre.2) (by simp)⟩)) ?_
    rintro _ _ ⟨_, ⟨qp_51, qs_52, n_54, fq_53, f_55, rfl, rfl⟩, rfl⟩
    refine ⟨(by simp), ?_⟩
    refine JA.one (i := 8) (by kernel_rfl) ?_
    refine JX.op rfl rfl (JO.call [0] Tryz.call161 rfl (D_text qb qa qc ql qp_51 qs_52 (by omega) (by omega) ((n_54 : Nat) : Int) (by omega)) rfl (fun w hw => ⟨hw.seeOut_ hs_qa (hpre.2), hw.apart hs_qa (hpre.2) (by simp)⟩)) ?_
    rintro _ _ ⟨_, ⟨qp_63, qs_64, u_66, fq_65, f_67, rfl, rfl⟩, rfl⟩
    refine ⟨(by simp), ?_⟩
    refine JA.one (i := 9) (by kernel_rfl) ?_
    refine JX.op rfl rfl (JO.call [2, 2, 2] Tryz.call137 rfl (M_writeFile x1 mm hkmm (by omega) (by omega) 1 ((n_42 : Nat) : Int) u_66 (by omega) (by omega) (by omega)) rfl (fun _ _ => trivial)) ?_
    rintro _ _ ⟨_, ⟨x_77, m_78, n_79, e_75, k_76, f_80, rfl, rfl⟩, rfl⟩
    refine ⟨(by simp), ?_⟩
    refine JA.takeP 10 rfl (by kernel_rfl) (NP.th (NP.bl (NP.th (NP.th (NP.bl (NP.th NP.body)))))) (by kernel_rfl) (by kernel_rfl) rfl (PO.move (v := .tuple #[mv x_77 m_78, .int .i64 n_79]) rfl) ?_
    refine JA.takeP 11 rfl (by kernel_rfl) (NP.th (NP.bl (NP.th (NP.th (NP.bl (NP.th NP.body)))))) (by kernel_rfl) (by kernel_rfl) rfl (PO.extract (v := mv x_77 m_78) rfl rfl) ?_
    refine JA.takeP 12 rfl (by kernel_rfl) (NP.th (NP.bl (NP.th (NP.th (NP.bl (NP.th NP.body)))))) (by kernel_rfl) (by kernel_rfl) rfl (PO.extract (v := .int .i64 n_79) rfl rfl) ?_
    refine JA.one (i := 13) (by kernel_rfl) ?_
    refine JX.last rfl rfl (by decide) (by kernel_rfl) (JO.store 4 (vs := [.slice x_77.a0 m_78.s.length x_77.c0, .slice x_77.a1 m_78.r.length x_77.c1, .slice x_77.a2 m_78.w.length x_77.c2]) (cs' := [.slice x_77.a0 m_78.s.length x_77.c0, .slice x_77.a1 m_78.r.length x_77.c1, .slice x_77.a2 m_78.w.length x_77.c2]) rfl he_11 rfl rfl Tryz.sizeOf32 rfl rfl (Nat.le_of_ble_eq_true rfl) rfl) ?_
    rintro _ _ rfl
    refine JQ.seq ?_
    refine JC.region ?_
    refine JL.ld rfl (LO.loadK 4 (vs := [.slice x_77.a0 m_78.s.length x_77.c0, .slice x_77.a1 m_78.r.length x_77.c1, .slice x_77.a2 m_78.w.length x_77.c2]) rfl he_11 Tryz.isAgg32 Tryz.sizeOf32 rfl rfl) ?_
    refine JL.op rfl (JO.call [0, 0, 0] Tryz.call206 rfl (M_sizeFile x_77 m_78 k_76 (by omega) (by omega) 1 (by omega)) rfl (fun _ _ => trivial)) ?_
    rintro _ _ ⟨_, ⟨x_83, m_84, n_85, e_81, k_82, f_86, rfl, rfl⟩, rfl⟩
    refine JL.pure rfl (PO.move (v := .tuple #[mv x_83 m_84, .int .i64 n_85]) rfl) ?_
    refine JL.pure rfl (PO.extract (v := mv x_83 m_84) rfl rfl) ?_
    refine JL.pure rfl (PO.extract (v := .int .i64 n_85) rfl rfl) ?_
    refine JL.op rfl (JO.store 4 (vs := [.slice x_83.a0 m_84.s.length x_83.c0, .slice x_83.a1 m_84.r.length x_83.c1, .slice x_83.a2 m_84.w.length x_83.c2]) (cs' := [.slice x_83.a0 m_84.s.length x_83.c0, .slice x_83.a1 m_84.r.length x_83.c1, .slice x_83.a2 m_84.w.length x_83.c2]) rfl he_11 rfl rfl Tryz.sizeOf32 rfl rfl (Nat.le_of_ble_eq_true rfl) rfl) ?_
    rintro _ _ rfl
    refine JL.pure rfl (PO.assign (v := .int .i64 n_85) rfl) ?_
    refine JL.nil ?_
    refine JQ.blockN ?_
    refine JQ.seq ?_
    refine JC.region ?_
    refine JL.pure rfl (PO.move (v := .int .i64 ((i_ : Nat) : Int)) he_13) ?_
    refine JL.pure rfl (PO.add (c := ((i_ + 1 : Nat) : Int)) rfl rfl (wr (by omega))) ?_
    refine JL.pure rfl (PO.assign (v := .int .i64 ((i_ + 1 : Nat) : Int)) rfl) ?_
    refine JL.nil ?_
    refine JQ.pick [4, 0, 0, 0, 1, 1, 0] (A := [mb b_7 x_83 m_84, rC x_83.a0 x_83.c0 m_84.s, rS x_83.a1 x_83.c1 m_84.r, rS x_83.a2 x_83.c2 m_84.w, Res.row (.slice a_2 0 0) 113 2 0 (([] : List Cell).flatMap encC), bk b_1 32 [.slice none 0 0, .slice none 0 0, .slice none 0 0], cb qb qa qc ql qp_63 qs_64]) rfl ?_
    refine JQ.again (6 - (i_ + 1)) (by omega) ⟨(i_ + 1), qp_63, qs_64, x_83, m_84, n_85, (by omega), (k_82.mono (by omega) (by omega)), (by omega), (by omega), he_9, he_10, he_11, rfl, rfl, rfl, rfl⟩
  · skip
    refine JC.condF (congrArg Value.bool (decide_eq_false h_20)) ?_
    refine JC.exit ?_
    refine JQ.thenExit ?_
    refine JQ.thenExit ?_
    refine JQ.blockE ?_
    refine JQ.seq ?_
    refine JC.seq ?_
    refine JC.seq ?_
    refine JC.region ?_
    refine JL.pure rfl (PO.move (v := .pointer (some ⟨qb, 0, none⟩)) he_9) ?_
    refine JL.op rfl (JO.call [0] Tryz.call199 rfl (D_once qb qa qc ql qp_14 qs_15 (by omega) (by omega) 10 (by omega)) rfl (fun w hw => ⟨hw.seeOut_ hs_qa (hpre.2), hw.apart hs_qa (hpre.2) (by simp)⟩)) ?_
    rintro _ _ ⟨_, ⟨qp_87, qs_88, b_90, fq_89, rfl, rfl⟩, rfl⟩
    refine JL.nil ?_
    refine JQ.seq ?_
    rcases Bool.eq_false_or_eq_true (b_90) with h_92 | h_92
    · skip
      refine JC.condT (congrArg Value.bool h_92) ?_
      refine JC.regionA [mb b_7 x1 mm] 8 mixed (by simp) ?_
      refine JA.take 0 rfl (by kernel_rfl) (NP.th NP.body) (by kernel_rfl) (by kernel_rfl) (by kernel_rfl) rfl (LO.loadK 0 (vs := [.slice x1.a0 mm.s.length x1.c0, .slice x1.a1 mm.r.length x1.c1, .slice x1.a2 mm.w.length x1.c2]) rfl he_11 Tryz.isAgg32 Tryz.sizeOf32 rfl rfl) ?_
      refine JA.takeP 1 rfl (by kernel_rfl) (NP.th NP.body) (by kernel_rfl) (by kernel_rfl) rfl (PO.move (v := .pointer (some ⟨qb, 0, none⟩)) he_9) ?_
      refine JA.takeP 4 rfl (by kernel_rfl) (NP.th NP.body) (by kernel_rfl) (by kernel_rfl) rfl (PO.move (v := .pointer (some ⟨qb, 0, none⟩)) he_9) ?_
      refine JA.two (i := 2) (j := 5) (by kernel_rfl) ?_ ?_
      · skip
        refine JX.op rfl rfl (JO.buildSlice (ps := [(0, str [105, 47, 49, 47, 115]), (1, str [105, 47, 49, 47, 98, 47, 48]), (2, str [105, 47, 49, 47, 98, 47, 49])]) (cur := #[str [105, 47, 49, 47, 115], str [105, 47, 49, 47, 98, 47, 48], str [105, 47, 49, 47, 98, 47, 49]]) Tryz.underlying23 Tryz.sizeOf9 Tryz.zeroValue9 rfl (by kernel_rfl) (by decide) (by decide)) ?_
        rintro _ _ ⟨a_96, rfl, rfl⟩
        refine ⟨(by simp), ?_⟩
        refine JA.two (i := 3) (j := 5) (by kernel_rfl) ?_ ?_
        · skip
          refine JX.op rfl rfl (JO.call [1, 0] Tryz.call259 rfl (D_pick qb qa qc ql qp_87 qs_88 a_96 3 ([[105, 47, 49, 47, 115], [105, 47, 49, 47, 98, 47, 48], [105, 47, 49, 47, 98, 47, 49]] : List Str) (by omega) (by omega) (by simp) (by simp)) rfl (fun w hw => ⟨hw.seeOut_ hs_qa (hpre.2), hw.apart hs_qa (hpre.2) (by simp)⟩)) ?_
          rintro _ _ ⟨_, ⟨qp_104, qs_105, u_107, fq_106, f_108, rfl, rfl⟩, rfl⟩
          have hlu_107 : u_107.length ≤ 64 := by have hx_ := f_108; simp only [List.mem_cons, List.not_mem_nil, or_false] at hx_; rcases hx_ with hx_ | hx_ | hx_ <;> first | (rw [hx_]; decide) | (rw [hx_]; omega)
          refine ⟨(by simp), ?_⟩
          refine JA.one (i := 5) (by kernel_rfl) ?_
          refine JX.op rfl rfl (JO.buildSlice (ps := [(0, str [53]), (1, str [57, 57]), (2, str [120, 121, 122]), (3, str [54, 49, 54, 50]), (4, str [])]) (cur := #[str [53], str [57, 57], str [120, 121, 122], str [54, 49, 54, 50], str []]) Tryz.underlying23 Tryz.sizeOf9 Tryz.zeroValue9 rfl (by kernel_rfl) (by decide) (by decide)) ?_
          rintro _ _ ⟨a_111, rfl, rfl⟩
          refine ⟨(by simp), ?_⟩
          refine JA.one (i := 6) (by kernel_rfl) ?_
          refine JX.op rfl rfl (JO.call [1, 0] Tryz.call259 rfl (D_pick qb qa qc ql qp_104 qs_105 a_111 5 ([[53], [57, 57], [120, 121, 122], [54, 49, 54, 50], []] : List Str) (by omega) (by omega) (by simp) (by simp)) rfl (fun w hw => ⟨hw.seeOut_ hs_qa (hpre.2), hw.apart hs_qa (hpre.2) (by simp)⟩)) ?_
          rintro _ _ ⟨_, ⟨qp_118, qs_119, u_121, fq_120, f_122, rfl, rfl⟩, rfl⟩
          have hlu_121 : u_121.length ≤ 64 := by have hx_ := f_122; simp only [List.mem_cons, List.not_mem_nil, or_false] at hx_; rcases hx_ with hx_ | hx_ | hx_ | hx_ | hx_ <;> first | (rw [hx_]; decide) | (rw [hx_]; omega)
          refine ⟨(by simp), ?_⟩
          refine JA.one (i := 7) (by kernel_rfl) ?_
          refine JX.op rfl rfl (JO.call [2, 2, 2] Tryz.call232 rfl (N_sLay x1 mm hkmm (by omega) (by omega) u_107 u_121 (by omega)) rfl (fun _ _ => trivial)) ?_
          rintro _ _ ⟨_, ⟨x_130, m_131, e_128, k_129, rfl, rfl⟩, rfl⟩
          refine ⟨(by simp), ?_⟩
          refine JA.one (i := 8) (by kernel_rfl) ?_
          refine JX.last rfl rfl (by decide) (by kernel_rfl) (JO.store 4 (vs := [.slice x_130.a0 m_131.s.length x_130.c0, .slice x_130.a1 m_131.r.length x_130.c1, .slice x_130.a2 m_131.w.length x_130.c2]) (cs' := [.slice x_130.a0 m_131.s.length x_130.c0, .slice x_130.a1 m_131.r.length x_130.c1, .slice x_130.a2 m_131.w.length x_130.c2]) rfl he_11 rfl rfl Tryz.sizeOf32 rfl rfl (Nat.le_of_ble_eq_true rfl) rfl) ?_
          rintro _ _ rfl
          refine JQ.seq ?_
          refine JC.seq ?_
          refine JC.region ?_
          refine JL.ld rfl (LO.loadK 4 (vs := [.slice x_130.a0 m_131.s.length x_130.c0, .slice x_130.a1 m_131.r.length x_130.c1, .slice x_130.a2 m_131.w.length x_130.c2]) rfl he_11 Tryz.isAgg32 Tryz.sizeOf32 rfl rfl) ?_
          refine JL.op rfl (JO.store 6 (vs := [.slice x_130.a0 m_131.s.length x_130.c0, .slice x_130.a1 m_131.r.length x_130.c1, .slice x_130.a2 m_131.w.length x_130.c2]) (cs' := [.slice x_130.a0 m_131.s.length x_130.c0, .slice x_130.a1 m_131.r.length x_130.c1, .slice x_130.a2 m_131.w.length x_130.c2]) rfl he_10 rfl rfl Tryz.sizeOf32 rfl rfl (Nat.le_of_ble_eq_true rfl) rfl) ?_
          rintro _ _ rfl
          refine JL.nil ?_
          refine JQ.seq ?_
          refine JC.ret ?_
          refine JQ.perm (pick_perm [3, 0, 0, 0] (A := [cb qb qa qc ql qp_118 qs_119, rC x_130.a0 x_130.c0 m_131.s, rS x_130.a1 x_130.c1 m_131.r, rS x_130.a2 x_130.c2 m_131.w]) (F := [mb b_7 x_130 m_131, Res.row (.slice a_2 0 0) 113 2 0 (([] : List Cell).flatMap encC), mb b_1 x_130 m_131]) rfl).symm ?_
          refine Done.one (.inl rfl) rfl (RV.cell1 (LO.loadK 6 (vs := [.slice x_130.a0 m_131.s.length x_130.c0, .slice x_130.a1 m_131.r.length x_130.c1, .slice x_130.a2 m_131.w.length x_130.c2]) rfl he_10 Tryz.isAgg32 Tryz.sizeOf32 rfl rfl) ⟨_, he_10⟩) (List.sublist_append_left [cb qb qa qc ql qp_118 qs_119, rC x_130.a0 x_130.c0 m_131.s, rS x_130.a1 x_130.c1 m_131.r, rS x_130.a2 x_130.c2 m_131.w] [mb b_7 x_130 m_131, Res.row (.slice a_2 0 0) 113 2 0 (([] : List Cell).flatMap encC), mb b_1 x_130 m_131]) ?_
          exact ⟨qp_118, qs_119, x_130, m_131, (by omega), (k_129.mono (by omega) (by omega)), rfl, rfl⟩
        · skip
          refine JX.op rfl rfl (JO.buildSlice (ps := [(0, str [53]), (1, str [57, 57]), (2, str [120, 121, 122]), (3, str [54, 49, 54, 50]), (4, str [])]) (cur := #[str [53], str [57, 57], str [120, 121, 122], str [54, 49, 54, 50], str []]) Tryz.underlying23 Tryz.sizeOf9 Tryz.zeroValue9 rfl (by kernel_rfl) (by decide) (by decide)) ?_
          rintro _ _ ⟨a_132, rfl, rfl⟩
          refine ⟨(by simp), ?_⟩
          refine JA.one (i := 3) (by kernel_rfl) ?_
          refine JX.op rfl rfl (JO.call [2, 1] Tryz.call259 rfl (D_pick qb qa qc ql qp_87 qs_88 a_96 3 ([[105, 47, 49, 47, 115], [105, 47, 49, 47, 98, 47, 48], [105, 47, 49, 47, 98, 47, 49]] : List Str) (by omega) (by omega) (by simp) (by simp)) rfl (fun w hw => ⟨hw.seeOut_ hs_qa (hpre.2), hw.apart hs_qa (hpre.2) (by simp)⟩)) ?_
          rintro _ _ ⟨_, ⟨qp_139, qs_140, u_142, fq_141, f_143, rfl, rfl⟩, rfl⟩
          have hlu_142 : u_142.length ≤ 64 := by have hx_ := f_143; simp only [List.mem_cons, List.not_mem_nil, or_false] at hx_; rcases hx_ with hx_ | hx_ | hx_ <;> first | (rw [hx_]; decide) | (rw [hx_]; omega)
          refine ⟨(by simp), ?_⟩
          refine JA.one (i := 6) (by kernel_rfl) ?_
          refine JX.op rfl rfl (JO.call [0, 0] Tryz.call259 rfl (D_pick qb qa qc ql qp_139 qs_140 a_132 5 ([[53], [57, 57], [120, 121, 122], [54, 49, 54, 50], []] : List Str) (by omega) (by omega) (by simp) (by simp)) rfl (fun w hw => ⟨hw.seeOut_ hs_qa (hpre.2), hw.apart hs_qa (hpre.2) (by simp)⟩)) ?_
          rintro _ _ ⟨_, ⟨qp_151, qs_152, u_154, fq_153, f_155, rfl, rfl⟩, rfl⟩
          have hlu_154 : u_154.length ≤ 64 := by have hx_ := f_155; simp only [List.mem_cons, List.not_mem_nil, or_false] at hx_; rcases hx_ with hx_ | hx_ | hx_ | hx_ | hx_ <;> first | (rw [hx_]; decide) | (rw [hx_]; omega)
          refine ⟨(by simp), ?_⟩
          refine JA.one (i := 7) (by kernel_rfl) ?_
          refine JX.op rfl rfl (JO.call [2, 2, 2] Tryz.call232 rfl (N_sLay x1 mm hkmm (by omega) (by omega) u_142 u_154 (by omega)) rfl (fun _ _ => trivial)) ?_
          rintro _ _ ⟨_, ⟨x_163, m_164, e_161, k_162, rfl, rfl⟩, rfl⟩
          refine ⟨(by simp), ?_⟩
          refine JA.one (i := 8) (by kernel_rfl) ?_
          refine JX.last rfl rfl (by decide) (by kernel_rfl) (JO.store 4 (vs := [.slice x_163.a0 m_164.s.length x_163.c0, .slice x_163.a1 m_164.r.length x_163.c1, .slice x_163.a2 m_164.w.length x_163.c2]) (cs' := [.slice x_163.a0 m_164.s.length x_163.c0, .slice x_163.a1 m_164.r.length x_163.c1, .slice x_163.a2 m_164.w.length x_163.c2]) rfl he_11 rfl rfl Tryz.sizeOf32 rfl rfl (Nat.le_of_ble_eq_true rfl) rfl) ?_
          rintro _ _ rfl
          refine JQ.seq ?_
          refine JC.seq ?_
          refine JC.region ?_
          refine JL.ld rfl (LO.loadK 4 (vs := [.slice x_163.a0 m_164.s.length x_163.c0, .slice x_163.a1 m_164.r.length x_163.c1, .slice x_163.a2 m_164.w.length x_163.c2]) rfl he_11 Tryz.isAgg32 Tryz.sizeOf32 rfl rfl) ?_
          refine JL.op rfl (JO.store 6 (vs := [.slice x_163.a0 m_164.s.length x_163.c0, .slice x_163.a1 m_164.r.length x_163.c1, .slice x_163.a2 m_164.w.length x_163.c2]) (cs' := [.slice x_163.a0 m_164.s.length x_163.c0, .slice x_163.a1 m_164.r.length x_163.c1, .slice x_163.a2 m_164.w.length x_163.c2]) rfl he_10 rfl rfl Tryz.sizeOf32 rfl rfl (Nat.le_of_ble_eq_true rfl) rfl) ?_
          rintro _ _ rfl
          refine JL.nil ?_
          refine JQ.seq ?_
          refine JC.ret ?_
          refine JQ.perm (pick_perm [3, 0, 0, 0] (A := [cb qb qa qc ql qp_151 qs_152, rC x_163.a0 x_163.c0 m_164.s, rS x_163.a1 x_163.c1 m_164.r, rS x_163.a2 x_163.c2 m_164.w]) (F := [mb b_7 x_163 m_164, Res.row (.slice a_2 0 0) 113 2 0 (([] : List Cell).flatMap encC), mb b_1 x_163 m_164]) rfl).symm ?_
          refine Done.one (.inl rfl) rfl (RV.cell1 (LO.loadK 6 (vs := [.slice x_163.a0 m_164.s.length x_163.c0, .slice x_163.a1 m_164.r.length x_163.c1, .slice x_163.a2 m_164.w.length x_163.c2]) rfl he_10 Tryz.isAgg32 Tryz.sizeOf32 rfl rfl) ⟨_, he_10⟩) (List.sublist_append_left [cb qb qa qc ql qp_151 qs_152, rC x_163.a0 x_163.c0 m_164.s, rS x_163.a1 x_163.c1 m_164.r, rS x_163.a2 x_163.c2 m_164.w] [mb b_7 x_163 m_164, Res.row (.slice a_2 0 0) 113 2 0 (([] : List Cell).flatMap encC), mb b_1 x_163 m_164]) ?_
          exact ⟨qp_151, qs_152, x_163, m_164, (by omega), (k_162.mono (by omega) (by omega)), rfl, rfl⟩
      · skip
        refine JX.op rfl rfl (JO.buildSlice (ps := [(0, str [53]), (1, str [57, 57]), (2, str [120, 121, 122]), (3, str [54, 49, 54, 50]), (4, str [])]) (cur := #[str [53], str [57, 57], str [120, 121, 122], str [54, 49, 54, 50], str []]) Tryz.underlying23 Tryz.sizeOf9 Tryz.zeroValue9 rfl (by kernel_rfl) (by decide) (by decide)) ?_
        rintro _ _ ⟨a_165, rfl, rfl⟩
        refine ⟨(by simp), ?_⟩
        refine JA.one (i := 2) (by kernel_rfl) ?_
        refine JX.op rfl rfl (JO.buildSlice (ps := [(0, str [105, 47, 49, 47, 115]), (1, str [105, 47, 49, 47, 98, 47, 48]), (2, str [105, 47, 49, 47, 98, 47, 49])]) (cur := #[str [105, 47, 49, 47, 115], str [105, 47, 49, 47, 98, 47, 48], str [105, 47, 49, 47, 98, 47, 49]]) Tryz.underlying23 Tryz.sizeOf9 Tryz.zeroValue9 rfl (by kernel_rfl) (by decide) (by decide)) ?_
        rintro _ _ ⟨a_167, rfl, rfl⟩
        refine ⟨(by simp), ?_⟩
        refine JA.one (i := 3) (by kernel_rfl) ?_
        refine JX.op rfl rfl (JO.call [2, 0] Tryz.call259 rfl (D_pick qb qa qc ql qp_87 qs_88 a_167 3 ([[105, 47, 49, 47, 115], [105, 47, 49, 47, 98, 47, 48], [105, 47, 49, 47, 98, 47, 49]] : List Str) (by omega) (by omega) (by simp) (by simp)) rfl (fun w hw => ⟨hw.seeOut_ hs_qa (hpre.2), hw.apart hs_qa (hpre.2) (by simp)⟩)) ?_
        rintro _ _ ⟨_, ⟨qp_174, qs_175, u_177, fq_176, f_178, rfl, rfl⟩, rfl⟩
        have hlu_177 : u_177.length ≤ 64 := by have hx_ := f_178; simp only [List.mem_cons, List.not_mem_nil, or_false] at hx_; rcases hx_ with hx_ | hx_ | hx_ <;> first | (rw [hx_]; decide) | (rw [hx_]; omega)
        refine ⟨(by simp), ?_⟩
        refine JA.one (i := 6) (by kernel_rfl) ?_
        refine JX.op rfl rfl (JO.call [0, 0] Tryz.call259 rfl (D_pick qb qa qc ql qp_174 qs_175 a_165 5 ([[53], [57, 57], [120, 121, 122], [54, 49, 54, 50], []] : List Str) (by omega) (by omega) (by simp) (by simp)) rfl (fun w hw => ⟨hw.seeOut_ hs_qa (hpre.2), hw.apart hs_qa (hpre.2) (by simp)⟩)) ?_
        rintro _ _ ⟨_, ⟨qp_186, qs_187, u_189, fq_188, f_190, rfl, rfl⟩, rfl⟩
        have hlu_189 : u_189.length ≤ 64 := by have hx_ := f_190; simp only [List.mem_cons, List.not_mem_nil, or_false] at hx_; rcases hx_ with hx_ | hx_ | hx_ | hx_ | hx_ <;> first | (rw [hx_]; decide) | (rw [hx_]; omega)
        refine ⟨(by simp), ?_⟩
        refine JA.one (i := 7) (by kernel_rfl) ?_
        refine JX.op rfl rfl (JO.call [2, 2, 2] Tryz.call232 rfl (N_sLay x1 mm hkmm (by omega) (by omega) u_177 u_189 (by omega)) rfl (fun _ _ => trivial)) ?_
        rintro _ _ ⟨_, ⟨x_198, m_199, e_196, k_197, rfl, rfl⟩, rfl⟩
        refine ⟨(by simp), ?_⟩
        refine JA.one (i := 8) (by kernel_rfl) ?_
        refine JX.last rfl rfl (by decide) (by kernel_rfl) (JO.store 4 (vs := [.slice x_198.a0 m_199.s.length x_198.c0, .slice x_198.a1 m_199.r.length x_198.c1, .slice x_198.a2 m_199.w.length x_198.c2]) (cs' := [.slice x_198.a0 m_199.s.length x_198.c0, .slice x_198.a1 m_199.r.length x_198.c1, .slice x_198.a2 m_199.w.length x_198.c2]) rfl he_11 rfl rfl Tryz.sizeOf32 rfl rfl (Nat.le_of_ble_eq_true rfl) rfl) ?_
        rintro _ _ rfl
        refine JQ.seq ?_
        refine JC.seq ?_
        refine JC.region ?_
        refine JL.ld rfl (LO.loadK 4 (vs := [.slice x_198.a0 m_199.s.length x_198.c0, .slice x_198.a1 m_199.r.length x_198.c1, .slice x_198.a2 m_199.w.length x_198.c2]) rfl he_11 Tryz.isAgg32 Tryz.sizeOf32 rfl rfl) ?_
        refine JL.op rfl (JO.store 6 (vs := [.slice x_198.a0 m_199.s.length x_198.c0, .slice x_198.a1 m_199.r.length x_198.c1, .slice x_198.a2 m_199.w.length x_198.c2]) (cs' := [.slice x_198.a0 m_199.s.length x_198.c0, .slice x_198.a1 m_199.r.length x_198.c1, .slice x_198.a2 m_199.w.length x_198.c2]) rfl he_10 rfl rfl Tryz.sizeOf32 rfl rfl (Nat.le_of_ble_eq_true rfl) rfl) ?_
        rintro _ _ rfl
        refine JL.nil ?_
        refine JQ.seq ?_
        refine JC.ret ?_
        refine JQ.perm (pick_perm [3, 0, 0, 0] (A := [cb qb qa qc ql qp_186 qs_187, rC x_198.a0 x_198.c0 m_199.s, rS x_198.a1 x_198.c1 m_199.r, rS x_198.a2 x_198.c2 m_199.w]) (F := [mb b_7 x_198 m_199, Res.row (.slice a_2 0 0) 113 2 0 (([] : List Cell).flatMap encC), mb b_1 x_198 m_199]) rfl).symm ?_
        refine Done.one (.inl rfl) rfl (RV.cell1 (LO.loadK 6 (vs := [.slice x_198.a0 m_199.s.length x_198.c0, .slice x_198.a1 m_199.r.length x_198.c1, .slice x_198.a2 m_199.w.length x_198.c2]) rfl he_10 Tryz.isAgg32 Tryz.sizeOf32 rfl rfl) ⟨_, he_10⟩) (List.sublist_append_left [cb qb qa qc ql qp_186 qs_187, rC x_198.a0 x_198.c0 m_199.s, rS x_198.a1 x_198.c1 m_199.r, rS x_198.a2 x_198.c2 m_199.w] [mb b_7 x_198 m_199, Res.row (.slice a_2 0 0) 113 2 0 (([] : List Cell).flatMap encC), mb b_1 x_198 m_199]) ?_
        exact ⟨qp_186, qs_187, x_198, m_199, (by omega), (k_197.mono (by omega) (by omega)), rfl, rfl⟩
    · skip
      refine JC.condF (congrArg Value.bool h_92) ?_
      refine JC.skip ?_
      refine JQ.seq ?_
      refine JC.seq ?_
      refine JC.region ?_
      refine JL.ld rfl (LO.loadK 1 (vs := [.slice x1.a0 mm.s.length x1.c0, .slice x1.a1 mm.r.length x1.c1, .slice x1.a2 mm.w.length x1.c2]) rfl he_11 Tryz.isAgg32 Tryz.sizeOf32 rfl rfl) ?_
      refine JL.op rfl (JO.store 6 (vs := [.slice x1.a0 mm.s.length x1.c0, .slice x1.a1 mm.r.length x1.c1, .slice x1.a2 mm.w.length x1.c2]) (cs' := [.slice x1.a0 mm.s.length x1.c0, .slice x1.a1 mm.r.length x1.c1, .slice x1.a2 mm.w.length x1.c2]) rfl he_10 rfl rfl Tryz.sizeOf32 rfl rfl (Nat.le_of_ble_eq_true rfl) rfl) ?_
      rintro _ _ rfl
      refine JL.nil ?_
      refine JQ.seq ?_
      refine JC.ret ?_
      refine JQ.perm (pick_perm [0, 1, 1, 1] (A := [cb qb qa qc ql qp_87 qs_88, rC x1.a0 x1.c0 mm.s, rS x1.a1 x1.c1 mm.r, rS x1.a2 x1.c2 mm.w]) (F := [mb b_7 x1 mm, Res.row (.slice a_2 0 0) 113 2 0 (([] : List Cell).flatMap encC), mb b_1 x1 mm]) rfl).symm ?_
      refine Done.one (.inl rfl) rfl (RV.cell1 (LO.loadK 6 (vs := [.slice x1.a0 mm.s.length x1.c0, .slice x1.a1 mm.r.length x1.c1, .slice x1.a2 mm.w.length x1.c2]) rfl he_10 Tryz.isAgg32 Tryz.sizeOf32 rfl rfl) ⟨_, he_10⟩) (List.sublist_append_left [cb qb qa qc ql qp_87 qs_88, rC x1.a0 x1.c0 mm.s, rS x1.a1 x1.c1 mm.r, rS x1.a2 x1.c2 mm.w] [mb b_7 x1 mm, Res.row (.slice a_2 0 0) 113 2 0 (([] : List Cell).flatMap encC), mb b_1 x1 mm]) ?_
      exact ⟨qp_87, qs_88, x1, mm, (by omega), (hkmm.mono (by omega) (by omega)), rfl, rfl⟩

theorem D_place07 (qb : Nat) (qa : Option Addr) (qc : Nat) (ql : Str) (qp : Nat) (qs : Int) (hql : ql.length ≤ 1048576) (hqp : qp ≤ ql.length)  :
    Ct Tryz.prog 202 [.pointer (some ⟨qb, 0, none⟩)] [cb qb qa qc ql qp qs] (fun w => seesC w qa qc ql [cb qb qa qc ql qp qs]) (fun v A' => ∃ qp' qs' r0, qp' ≤ ql.length ∧ (-9223372036854775808 ≤ r0 ∧ r0 ≤ 9223372036854775807) ∧ v = .int .i64 r0 ∧ A' = [cb qb qa qc ql qp' qs']) := by
  refine Ct.intro Tryz.func202 rfl Tryz.ntmps202 (Nat.le_of_ble_eq_true rfl) fun w0 hpre => ?_
  have hs_qa : Sees w0 _ _ _ _ := hpre.1
  refine JC.seq ?_
  refine JC.region ?_
  refine JL.pure rfl (PO.assign (v := .int .i64 0) rfl) ?_
  refine JL.nil ?_
  refine JQ.seq ?_
  refine JC.seq ?_
  refine JC.region ?_
  refine JL.pure rfl (PO.move (v := .pointer (some ⟨qb, 0, none⟩)) rfl) ?_
  refine JL.pure rfl (PO.move (v := .pointer (some ⟨qb, 0, none⟩)) rfl) ?_
  refine JL.op rfl (JO.call [0] Tryz.call173 rfl (D_below qb qa qc ql qp qs (by omega) (by omega) 40 (by omega)) rfl (fun w hw => ⟨hw.seeOut_ hs_qa (hpre.2), hw.apart hs_qa (hpre.2) (by simp)⟩)) ?_
  rintro _ _ ⟨_, ⟨qp_1, qs_2, n_4, fq_3, f_5, rfl, rfl⟩, rfl⟩
  refine JL.op rfl (JO.buildSlice (ps := [(0, .int .i64 0), (1, .int .i64 1), (2, .int .i64 7), (3, .int .i64 8), (4, .int .i64 9), (5, .int .i64 16), (6, .int .i64 ((n_4 : Nat) : Int)), (7, .int .i64 (-1)), (8, .int .i64 65), (9, .int .i64 9223372036854775807)]) (cur := #[.int .i64 0, .int .i64 1, .int .i64 7, .int .i64 8, .int .i64 9, .int .i64 16, .int .i64 ((n_4 : Nat) : Int), .int .i64 (-1), .int .i64 65, .int .i64 9223372036854775807]) Tryz.underlying70 Tryz.sizeOf3 Tryz.zeroValue3 rfl (by kernel_rfl) (by decide) (by decide)) ?_
  rintro _ _ ⟨a_7, rfl, rfl⟩
  refine JL.op rfl (JO.call [1, 0] Tryz.call162 rfl (D_pickInt qb qa qc ql qp_1 qs_2 a_7 10 ([0, 1, 7, 8, 9, 16, ((n_4 : Nat) : Int), -1, 65, 9223372036854775807] : List Int) (by omega) (by omega) (by simp) (by simp)) rfl (fun w hw => ⟨hw.seeOut_ hs_qa (hpre.2), hw.apart hs_qa (hpre.2) (by simp)⟩)) ?_
  rintro _ _ ⟨_, ⟨qp_8, qs_9, n_11, fq_10, f_12, rfl, rfl⟩, rfl⟩
  have hbn_11 : -9223372036854775808 ≤ n_11 ∧ n_11 ≤ 9223372036854775807 := by have hx_ := f_12; simp only [List.mem_cons, List.not_mem_nil, or_false] at hx_; omega
  refine JL.pure rfl (PO.assign (v := .int .i64 n_11) rfl) ?_
  refine JL.nil ?_
  refine JQ.seq ?_
  refine JC.ret ?_
  refine Done.one (.inl rfl) rfl (RV.tmp (v := .int .i64 n_11) rfl) (List.Sublist.refl _) ?_
  exact ⟨qp_8, qs_9, n_11, (by omega), (by first | omega | (simp only [List.length_append, List.length_cons, List.length_nil, List.length_take, List.length_drop]; omega)), rfl, rfl⟩

theorem D_id07 (qb : Nat) (qa : Option Addr) (qc : Nat) (ql : Str) (qp : Nat) (qs : Int) (hql : ql.length ≤ 1048576) (hqp : qp ≤ ql.length)  :
    Ct Tryz.prog 201 [.pointer (some ⟨qb, 0, none⟩)] [cb qb qa qc ql qp qs] (fun w => seesC w qa qc ql [cb qb qa qc ql qp qs]) (fun v A' => ∃ qp' qs' r0, qp' ≤ ql.length ∧ (-9223372036854775808 ≤ r0 ∧ r0 ≤ 9223372036854775807) ∧ v = .int .i64 r0 ∧ A' = [cb qb qa qc ql qp' qs']) := by
  refine Ct.intro Tryz.func201 rfl Tryz.ntmps201 (Nat.le_of_ble_eq_true rfl) fun w0 hpre => ?_
  have hs_qa : Sees w0 _ _ _ _ := hpre.1
  refine JC.seq ?_
  refine JC.region ?_
  refine JL.pure rfl (PO.assign (v := .int .i64 0) rfl) ?_
  refine JL.nil ?_
  refine JQ.seq ?_
  refine JC.seq ?_
  refine JC.region ?_
  refine JL.pure rfl (PO.move (v := .pointer (some ⟨qb, 0, none⟩)) rfl) ?_
  refine JL.op rfl (JO.buildSlice (ps := [(0, .int .i64 1), (1, .int .i64 1), (2, .int .i64 1), (3, .int .i64 2), (4, .int .i64 0), (5, .int .i64 (-1))]) (cur := #[.int .i64 1, .int .i64 1, .int .i64 1, .int .i64 2, .int .i64 0, .int .i64 (-1)]) Tryz.underlying70 Tryz.sizeOf3 Tryz.zeroValue3 rfl (by kernel_rfl) (by decide) (by decide)) ?_
  rintro _ _ ⟨a_1, rfl, rfl⟩
  refine JL.op rfl (JO.call [1, 0] Tryz.call162 rfl (D_pickInt qb qa qc ql qp qs a_1 6 ([1, 1, 1, 2, 0, -1] : List Int) (by omega) (by omega) (by simp) (by simp)) rfl (fun w hw => ⟨hw.seeOut_ hs_qa (hpre.2), hw.apart hs_qa (hpre.2) (by simp)⟩)) ?_
  rintro _ _ ⟨_, ⟨qp_2, qs_3, n_5, fq_4, f_6, rfl, rfl⟩, rfl⟩
  have hbn_5 : -9223372036854775808 ≤ n_5 ∧ n_5 ≤ 9223372036854775807 := by have hx_ := f_6; simp only [List.mem_cons, List.not_mem_nil, or_false] at hx_; omega
  refine JL.pure rfl (PO.assign (v := .int .i64 n_5) rfl) ?_
  refine JL.nil ?_
  refine JQ.seq ?_
  refine JC.ret ?_
  refine Done.one (.inl rfl) rfl (RV.tmp (v := .int .i64 n_5) rfl) (List.Sublist.refl _) ?_
  exact ⟨qp_2, qs_3, n_5, (by omega), (by first | omega | (simp only [List.length_append, List.length_cons, List.length_nil, List.length_take, List.length_drop]; omega)), rfl, rfl⟩

theorem D_dSizeFile (pa : Option Addr) (pc : Nat) (p : Str) (hp : p.length ≤ 1048576)  :
    Ct Tryz.prog 100 [.slice pa p.length pc] [] (fun w => Sees w (.slice pa p.length pc) 1 p.length (p.map encB)) (fun v A' => ∃ r0x r0 r1, r0.ok (62) (160) ∧ (-9223372036854775808 ≤ r1 ∧ r1 ≤ 9223372036854775807) ∧ v = .tuple #[mv r0x r0, .int .i64 r1] ∧ A' = mr r0x r0) := by
  refine Ct.intro Tryz.func100 rfl Tryz.ntmps100 (Nat.le_of_ble_eq_true rfl) fun w0 hpre => ?_
  have hs_pa : Sees w0 _ _ _ _ := hpre
  refine JC.seq ?_
  refine JC.region ?_
  refine JL.op rfl (JO.alloc (z := .agg #[.slice none 0 0, .slice none 0 0, .slice none 0 0]) (cs := [.slice none 0 0, .slice none 0 0, .slice none 0 0]) Tryz.zeroValue32 rfl) ?_
  rintro _ _ ⟨b_1, rfl, rfl⟩
  refine JL.pure rfl (PO.assign (v := .int .i64 0) rfl) ?_
  refine JL.nil ?_
  refine JQ.seq ?_
  refine JC.seq ?_
  refine JC.region ?_
  refine JL.pure rfl (PO.move (v := .slice pa p.length pc) rfl) ?_
  refine JL.op rfl (JO.call [] Tryz.call157 rfl (D_new pa pc p (by omega)) rfl (fun w hw => hw.seeOut_ hs_pa (fun _ _ => List.not_mem_nil))) ?_
  rintro _ _ ⟨_, ⟨c_2, qs_3, -, rfl, rfl⟩, rfl⟩
  refine JL.pure rfl (PO.assign (v := .pointer (some ⟨c_2, 0, none⟩)) rfl) ?_
  refine JL.nil ?_
  refine JQ.seq ?_
  refine JC.seq ?_
  refine JC.region ?_
  refine JL.pure rfl (PO.move (v := .pointer (some ⟨c_2, 0, none⟩)) rfl) ?_
  refine JL.op rfl (JO.call [0] Tryz.call200 rfl (D_mach07 c_2 pa pc p 0 qs_3 (by omega) (by omega)) rfl (fun w hw => ⟨hw.seeOut_ hs_pa (fun _ _ => List.not_mem_nil), hw.apart hs_pa (fun _ _ => List.not_mem_nil) (by simp)⟩)) ?_
  rintro _ _ ⟨_, ⟨qp_5, qs_6, x_8, m_9, fq_7, k_10, rfl, rfl⟩, rfl⟩
  refine JL.pure rfl (PO.move (v := .pointer (some ⟨c_2, 0, none⟩)) rfl) ?_
  refine JL.op rfl (JO.call [0] Tryz.call201 rfl (D_id07 c_2 pa pc p qp_5 qs_6 (by omega) (by omega)) rfl (fun w hw => ⟨hw.seeOut_ hs_pa (fun _ _ => List.not_mem_nil), hw.apart hs_pa (fun _ _ => List.not_mem_nil) (by simp)⟩)) ?_
  rintro _ _ ⟨_, ⟨qp_12, qs_13, n_15, fq_14, f_16, rfl, rfl⟩, rfl⟩
  refine JL.op rfl (JO.store 4 (vs := [.slice x_8.a0 m_9.s.length x_8.c0, .slice x_8.a1 m_9.r.length x_8.c1, .slice x_8.a2 m_9.w.length x_8.c2]) (cs' := [.slice x_8.a0 m_9.s.length x_8.c0, .slice x_8.a1 m_9.r.length x_8.c1, .slice x_8.a2 m_9.w.length x_8.c2]) rfl rfl rfl rfl Tryz.sizeOf32 rfl rfl (Nat.le_of_ble_eq_true rfl) rfl) ?_
  rintro _ _ rfl
  refine JL.pure rfl (PO.assign (v := .int .i64 n_15) rfl) ?_
  refine JL.nil ?_
  refine JQ.seq ?_
  refine JC.ret ?_
  refine JQ.perm (pick_perm [1, 1, 1] (A := [rC x_8.a0 x_8.c0 m_9.s, rS x_8.a1 x_8.c1 m_9.r, rS x_8.a2 x_8.c2 m_9.w]) (F := [cb c_2 pa pc p qp_12 qs_13, mb b_1 x_8 m_9]) rfl).symm ?_
  refine Done.two (.inl rfl) rfl (RV.cell1 (LO.loadK 4 (vs := [.slice x_8.a0 m_9.s.length x_8.c0, .slice x_8.a1 m_9.r.length x_8.c1, .slice x_8.a2 m_9.w.length x_8.c2]) rfl rfl Tryz.isAgg32 Tryz.sizeOf32 rfl rfl) ⟨_, rfl⟩) (RV.tmp (v := .int .i64 n_15) rfl) (List.sublist_append_left [rC x_8.a0 x_8.c0 m_9.s, rS x_8.a1 x_8.c1 m_9.r, rS x_8.a2 x_8.c2 m_9.w] [cb c_2 pa pc p qp_12 qs_13, mb b_1 x_8 m_9]) ?_
  exact ⟨x_8, m_9, n_15, (k_10.mono (by omega) (by omega)), (by first | omega | (simp only [List.length_append, List.length_cons, List.length_nil, List.length_take, List.length_drop]; omega)), rfl, rfl⟩

theorem D_dBlockOf (pa : Option Addr) (pc : Nat) (p : Str) (hp : p.length ≤ 1048576)  :
    Ct Tryz.prog 104 [.slice pa p.length pc] [] (fun w => Sees w (.slice pa p.length pc) 1 p.length (p.map encB)) (fun v A' => ∃ r0x r0 r1 r2, r0.ok (62) (160) ∧ (-9223372036854775808 ≤ r1 ∧ r1 ≤ 9223372036854775807) ∧ (-9223372036854775808 ≤ r2 ∧ r2 ≤ 9223372036854775807) ∧ v = .tuple #[mv r0x r0, .int .i64 r1, .int .i64 r2] ∧ A' = mr r0x r0) := by
  refine Ct.intro Tryz.func104 rfl Tryz.ntmps104 (Nat.le_of_ble_eq_true rfl) fun w0 hpre => ?_
  have hs_pa : Sees w0 _ _ _ _ := hpre
  refine JC.seq ?_
  refine JC.region ?_
  refine JL.op rfl (JO.alloc (z := .agg #[.slice none 0 0, .slice none 0 0, .slice none 0 0]) (cs := [.slice none 0 0, .slice none 0 0, .slice none 0 0]) Tryz.zeroValue32 rfl) ?_
  rintro _ _ ⟨b_1, rfl, rfl⟩
  refine JL.pure rfl (PO.assign (v := .int .i64 0) rfl) ?_
  refine JL.pure rfl (PO.assign (v := .int .i64 0) rfl) ?_
  refine JL.nil ?_
  refine JQ.seq ?_
  refine JC.seq ?_
  refine JC.region ?_
  refine JL.pure rfl (PO.move (v := .slice pa p.length pc) rfl) ?_
  refine JL.op rfl (JO.call [] Tryz.call157 rfl (D_new pa pc p (by omega)) rfl (fun w hw => hw.seeOut_ hs_pa (fun _ _ => List.not_mem_nil))) ?_
  rintro _ _ ⟨_, ⟨c_2, qs_3, -, rfl, rfl⟩, rfl⟩
  refine JL.pure rfl (PO.assign (v := .pointer (some ⟨c_2, 0, none⟩)) rfl) ?_
  refine JL.nil ?_
  refine JQ.seq ?_
  refine JC.seq ?_
  refine JC.region ?_
  refine JL.pure rfl (PO.move (v := .pointer (some ⟨c_2, 0, none⟩)) rfl) ?_
  refine JL.op rfl (JO.call [0] Tryz.call200 rfl (D_mach07 c_2 pa pc p 0 qs_3 (by omega) (by omega)) rfl (fun w hw => ⟨hw.seeOut_ hs_pa (fun _ _ => List.not_mem_nil), hw.apart hs_pa (fun _ _ => List.not_mem_nil) (by simp)⟩)) ?_
  rintro _ _ ⟨_, ⟨qp_5, qs_6, x_8, m_9, fq_7, k_10, rfl, rfl⟩, rfl⟩
  refine JL.pure rfl (PO.move (v := .pointer (some ⟨c_2, 0, none⟩)) rfl) ?_
  refine JL.op rfl (JO.call [0] Tryz.call201 rfl (D_id07 c_2 pa pc p qp_5 qs_6 (by omega) (by omega)) rfl (fun w hw => ⟨hw.seeOut_ hs_pa (fun _ _ => List.not_mem_nil), hw.apart hs_pa (fun _ _ => List.not_mem_nil) (by simp)⟩)) ?_
  rintro _ _ ⟨_, ⟨qp_12, qs_13, n_15, fq_14, f_16, rfl, rfl⟩, rfl⟩
  refine JL.pure rfl (PO.move (v := .pointer (some ⟨c_2, 0, none⟩)) rfl) ?_
  refine JL.op rfl (JO.call [0] Tryz.call173 rfl (D_below c_2 pa pc p qp_12 qs_13 (by omega) (by omega) 5 (by omega)) rfl (fun w hw => ⟨hw.seeOut_ hs_pa (fun _ _ => List.not_mem_nil), hw.apart hs_pa (fun _ _ => List.not_mem_nil) (by simp)⟩)) ?_
  rintro _ _ ⟨_, ⟨qp_18, qs_19, n_21, fq_20, f_22, rfl, rfl⟩, rfl⟩
  refine JL.pure rfl (PO.sub (c := ((n_21 : Nat) : Int) - 1) rfl rfl (wr (by omega))) ?_
  refine JL.op rfl (JO.store 4 (vs := [.slice x_8.a0 m_9.s.length x_8.c0, .slice x_8.a1 m_9.r.length x_8.c1, .slice x_8.a2 m_9.w.length x_8.c2]) (cs' := [.slice x_8.a0 m_9.s.length x_8.c0, .slice x_8.a1 m_9.r.length x_8.c1, .slice x_8.a2 m_9.w.length x_8.c2]) rfl rfl rfl rfl Tryz.sizeOf32 rfl rfl (Nat.le_of_ble_eq_true rfl) rfl) ?_
  rintro _ _ rfl
  refine JL.pure rfl (PO.assign (v := .int .i64 n_15) rfl) ?_
  refine JL.pure rfl (PO.assign (v := .int .i64 (((n_21 : Nat) : Int) - 1)) rfl) ?_
  refine JL.nil ?_
  refine JQ.seq ?_
  refine JC.ret ?_
  refine JQ.perm (pick_perm [1, 1, 1] (A := [rC x_8.a0 x_8.c0 m_9.s, rS x_8.a1 x_8.c1 m_9.r, rS x_8.a2 x_8.c2 m_9.w]) (F := [cb c_2 pa pc p qp_18 qs_19, mb b_1 x_8 m_9]) rfl).symm ?_
  refine Done.three (.inl rfl) rfl (RV.cell1 (LO.loadK 4 (vs := [.slice x_8.a0 m_9.s.length x_8.c0, .slice x_8.a1 m_9.r.length x_8.c1, .slice x_8.a2 m_9.w.length x_8.c2]) rfl rfl Tryz.isAgg32 Tryz.sizeOf32 rfl rfl) ⟨_, rfl⟩) (RV.tmp (v := .int .i64 n_15) rfl) (RV.tmp (v := .int .i64 (((n_21 : Nat) : Int) - 1)) rfl) (List.sublist_append_left [rC x_8.a0 x_8.c0 m_9.s, rS x_8.a1 x_8.c1 m_9.r, rS x_8.a2 x_8.c2 m_9.w] [cb c_2 pa pc p qp_18 qs_19, mb b_1 x_8 m_9]) ?_
  exact ⟨x_8, m_9, n_15, (((n_21 : Nat) : Int) - 1), (k_10.mono (by omega) (by omega)), (by first | omega | (simp only [List.length_append, List.length_cons, List.length_nil, List.length_take, List.length_drop]; omega)), (by first | omega | (simp only [List.length_append, List.length_cons, List.length_nil, List.length_take, List.length_drop]; omega)), rfl, rfl⟩

theorem D_dReadFile (pa : Option Addr) (pc : Nat) (p : Str) (hp : p.length ≤ 1048576)  :
    Ct Tryz.prog 98 [.slice pa p.length pc] [] (fun w => Sees w (.slice pa p.length pc) 1 p.length (p.map encB)) (fun v A' => ∃ r0x r0 r1 r2 r3, r0.ok (62) (160) ∧ (-9223372036854775808 ≤ r1 ∧ r1 ≤ 9223372036854775807) ∧ (-9223372036854775808 ≤ r2 ∧ r2 ≤ 9223372036854775807) ∧ (-9223372036854775808 ≤ r3 ∧ r3 ≤ 9223372036854775807) ∧ v = .tuple #[mv r0x r0, .int .i64 r1, .int .i64 r2, .int .i64 r3] ∧ A' = mr r0x r0) := by
  refine Ct.intro Tryz.func98 rfl Tryz.ntmps98 (Nat.le_of_ble_eq_true rfl) fun w0 hpre => ?_
  have hs_pa : Sees w0 _ _ _ _ := hpre
  refine JC.seq ?_
  refine JC.region ?_
  refine JL.op rfl (JO.alloc (z := .agg #[.slice none 0 0, .slice none 0 0, .slice none 0 0]) (cs := [.slice none 0 0, .slice none 0 0, .slice none 0 0]) Tryz.zeroValue32 rfl) ?_
  rintro _ _ ⟨b_1, rfl, rfl⟩
  refine JL.pure rfl (PO.assign (v := .int .i64 0) rfl) ?_
  refine JL.pure rfl (PO.assign (v := .int .i64 0) rfl) ?_
  refine JL.pure rfl (PO.assign (v := .int .i64 0) rfl) ?_
  refine JL.nil ?_
  refine JQ.seq ?_
  refine JC.seq ?_
  refine JC.region ?_
  refine JL.pure rfl (PO.move (v := .slice pa p.length pc) rfl) ?_
  refine JL.op rfl (JO.call [] Tryz.call157 rfl (D_new pa pc p (by omega)) rfl (fun w hw => hw.seeOut_ hs_pa (fun _ _ => List.not_mem_nil))) ?_
  rintro _ _ ⟨_, ⟨c_2, qs_3, -, rfl, rfl⟩, rfl⟩
  refine JL.pure rfl (PO.assign (v := .pointer (some ⟨c_2, 0, none⟩)) rfl) ?_
  refine JL.nil ?_
  refine JQ.seq ?_
  refine JC.seq ?_
  refine JC.region ?_
  refine JL.pure rfl (PO.move (v := .pointer (some ⟨c_2, 0, none⟩)) rfl) ?_
  refine JL.op rfl (JO.call [0] Tryz.call200 rfl (D_mach07 c_2 pa pc p 0 qs_3 (by omega) (by omega)) rfl (fun w hw => ⟨hw.seeOut_ hs_pa (fun _ _ => List.not_mem_nil), hw.apart hs_pa (fun _ _ => List.not_mem_nil) (by simp)⟩)) ?_
  rintro _ _ ⟨_, ⟨qp_5, qs_6, x_8, m_9, fq_7, k_10, rfl, rfl⟩, rfl⟩
  refine JL.pure rfl (PO.move (v := .pointer (some ⟨c_2, 0, none⟩)) rfl) ?_
  refine JL.op rfl (JO.call [0] Tryz.call201 rfl (D_id07 c_2 pa pc p qp_5 qs_6 (by omega) (by omega)) rfl (fun w hw => ⟨hw.seeOut_ hs_pa (fun _ _ => List.not_mem_nil), hw.apart hs_pa (fun _ _ => List.not_mem_nil) (by simp)⟩)) ?_
  rintro _ _ ⟨_, ⟨qp_12, qs_13, n_15, fq_14, f_16, rfl, rfl⟩, rfl⟩
  refine JL.pure rfl (PO.move (v := .pointer (some ⟨c_2, 0, none⟩)) rfl) ?_
  refine JL.op rfl (JO.call [0] Tryz.call202 rfl (D_place07 c_2 pa pc p qp_12 qs_13 (by omega) (by omega)) rfl (fun w hw => ⟨hw.seeOut_ hs_pa (fun _ _ => List.not_mem_nil), hw.apart hs_pa (fun _ _ => List.not_mem_nil) (by simp)⟩)) ?_
  rintro _ _ ⟨_, ⟨qp_18, qs_19, n_21, fq_20, f_22, rfl, rfl⟩, rfl⟩
  refine JL.pure rfl (PO.move (v := .pointer (some ⟨c_2, 0, none⟩)) rfl) ?_
  refine JL.op rfl (JO.call [0] Tryz.call202 rfl (D_place07 c_2 pa pc p qp_18 qs_19 (by omega) (by omega)) rfl (fun w hw => ⟨hw.seeOut_ hs_pa (fun _ _ => List.not_mem_nil), hw.apart hs_pa (fun _ _ => List.not_mem_nil) (by simp)⟩)) ?_
  rintro _ _ ⟨_, ⟨qp_24, qs_25, n_27, fq_26, f_28, rfl, rfl⟩, rfl⟩
  refine JL.op rfl (JO.store 4 (vs := [.slice x_8.a0 m_9.s.length x_8.c0, .slice x_8.a1 m_9.r.length x_8.c1, .slice x_8.a2 m_9.w.length x_8.c2]) (cs' := [.slice x_8.a0 m_9.s.length x_8.c0, .slice x_8.a1 m_9.r.length x_8.c1, .slice x_8.a2 m_9.w.length x_8.c2]) rfl rfl rfl rfl Tryz.sizeOf32 rfl rfl (Nat.le_of_ble_eq_true rfl) rfl) ?_
  rintro _ _ rfl
  refine JL.pure rfl (PO.assign (v := .int .i64 n_15) rfl) ?_
  refine JL.pure rfl (PO.assign (v := .int .i64 n_21) rfl) ?_
  refine JL.pure rfl (PO.assign (v := .int .i64 n_27) rfl) ?_
  refine JL.nil ?_
  refine JQ.seq ?_
  refine JC.ret ?_
  refine JQ.perm (pick_perm [1, 1, 1] (A := [rC x_8.a0 x_8.c0 m_9.s, rS x_8.a1 x_8.c1 m_9.r, rS x_8.a2 x_8.c2 m_9.w]) (F := [cb c_2 pa pc p qp_24 qs_25, mb b_1 x_8 m_9]) rfl).symm ?_
  refine Done.four (.inl rfl) rfl (RV.cell1 (LO.loadK 4 (vs := [.slice x_8.a0 m_9.s.length x_8.c0, .slice x_8.a1 m_9.r.length x_8.c1, .slice x_8.a2 m_9.w.length x_8.c2]) rfl rfl Tryz.isAgg32 Tryz.sizeOf32 rfl rfl) ⟨_, rfl⟩) (RV.tmp (v := .int .i64 n_15) rfl) (RV.tmp (v := .int .i64 n_21) rfl) (RV.tmp (v := .int .i64 n_27) rfl) (List.sublist_append_left [rC x_8.a0 x_8.c0 m_9.s, rS x_8.a1 x_8.c1 m_9.r, rS x_8.a2 x_8.c2 m_9.w] [cb c_2 pa pc p qp_24 qs_25, mb b_1 x_8 m_9]) ?_
  exact ⟨x_8, m_9, n_15, n_21, n_27, (k_10.mono (by omega) (by omega)), (by first | omega | (simp only [List.length_append, List.length_cons, List.length_nil, List.length_take, List.length_drop]; omega)), (by first | omega | (simp only [List.length_append, List.length_cons, List.length_nil, List.length_take, List.length_drop]; omega)), (by first | omega | (simp only [List.length_append, List.length_cons, List.length_nil, List.length_take, List.length_drop]; omega)), rfl, rfl⟩

theorem D_dCutFile (pa : Option Addr) (pc : Nat) (p : Str) (hp : p.length ≤ 1048576)  :
    Ct Tryz.prog 103 [.slice pa p.length pc] [] (fun w => Sees w (.slice pa p.length pc) 1 p.length (p.map encB)) (fun v A' => ∃ r0x r0 r1 r2, r0.ok (62) (160) ∧ (-9223372036854775808 ≤ r1 ∧ r1 ≤ 9223372036854775807) ∧ (-9223372036854775808 ≤ r2 ∧ r2 ≤ 9223372036854775807) ∧ v = .tuple #[mv r0x r0, .int .i64 r1, .int .i64 r2] ∧ A' = mr r0x r0) := by
  refine Ct.intro Tryz.func103 rfl Tryz.ntmps103 (Nat.le_of_ble_eq_true rfl) fun w0 hpre => ?_
  have hs_pa : Sees w0 _ _ _ _ := hpre
  refine JC.seq ?_
  refine JC.region ?_
  refine JL.op rfl (JO.alloc (z := .agg #[.slice none 0 0, .slice none 0 0, .slice none 0 0]) (cs := [.slice none 0 0, .slice none 0 0, .slice none 0 0]) Tryz.zeroValue32 rfl) ?_
  rintro _ _ ⟨b_1, rfl, rfl⟩
  refine JL.pure rfl (PO.assign (v := .int .i64 0) rfl) ?_
  refine JL.pure rfl (PO.assign (v := .int .i64 0) rfl) ?_
  refine JL.nil ?_
  refine JQ.seq ?_
  refine JC.seq ?_
  refine JC.region ?_
  refine JL.pure rfl (PO.move (v := .slice pa p.length pc) rfl) ?_
  refine JL.op rfl (JO.call [] Tryz.call157 rfl (D_new pa pc p (by omega)) rfl (fun w hw => hw.seeOut_ hs_pa (fun _ _ => List.not_mem_nil))) ?_
  rintro _ _ ⟨_, ⟨c_2, qs_3, -, rfl, rfl⟩, rfl⟩
  refine JL.pure rfl (PO.assign (v := .pointer (some ⟨c_2, 0, none⟩)) rfl) ?_
  refine JL.nil ?_
  refine JQ.seq ?_
  refine JC.seq ?_
  refine JC.region ?_
  refine JL.pure rfl (PO.move (v := .pointer (some ⟨c_2, 0, none⟩)) rfl) ?_
  refine JL.op rfl (JO.call [0] Tryz.call200 rfl (D_mach07 c_2 pa pc p 0 qs_3 (by omega) (by omega)) rfl (fun w hw => ⟨hw.seeOut_ hs_pa (fun _ _ => List.not_mem_nil), hw.apart hs_pa (fun _ _ => List.not_mem_nil) (by simp)⟩)) ?_
  rintro _ _ ⟨_, ⟨qp_5, qs_6, x_8, m_9, fq_7, k_10, rfl, rfl⟩, rfl⟩
  refine JL.pure rfl (PO.move (v := .pointer (some ⟨c_2, 0, none⟩)) rfl) ?_
  refine JL.op rfl (JO.call [0] Tryz.call201 rfl (D_id07 c_2 pa pc p qp_5 qs_6 (by omega) (by omega)) rfl (fun w hw => ⟨hw.seeOut_ hs_pa (fun _ _ => List.not_mem_nil), hw.apart hs_pa (fun _ _ => List.not_mem_nil) (by simp)⟩)) ?_
  rintro _ _ ⟨_, ⟨qp_12, qs_13, n_15, fq_14, f_16, rfl, rfl⟩, rfl⟩
  refine JL.pure rfl (PO.move (v := .pointer (some ⟨c_2, 0, none⟩)) rfl) ?_
  refine JL.op rfl (JO.call [0] Tryz.call202 rfl (D_place07 c_2 pa pc p qp_12 qs_13 (by omega) (by omega)) rfl (fun w hw => ⟨hw.seeOut_ hs_pa (fun _ _ => List.not_mem_nil), hw.apart hs_pa (fun _ _ => List.not_mem_nil) (by simp)⟩)) ?_
  rintro _ _ ⟨_, ⟨qp_18, qs_19, n_21, fq_20, f_22, rfl, rfl⟩, rfl⟩
  refine JL.op rfl (JO.store 4 (vs := [.slice x_8.a0 m_9.s.length x_8.c0, .slice x_8.a1 m_9.r.length x_8.c1, .slice x_8.a2 m_9.w.length x_8.c2]) (cs' := [.slice x_8.a0 m_9.s.length x_8.c0, .slice x_8.a1 m_9.r.length x_8.c1, .slice x_8.a2 m_9.w.length x_8.c2]) rfl rfl rfl rfl Tryz.sizeOf32 rfl rfl (Nat.le_of_ble_eq_true rfl) rfl) ?_
  rintro _ _ rfl
  refine JL.pure rfl (PO.assign (v := .int .i64 n_15) rfl) ?_
  refine JL.pure rfl (PO.assign (v := .int .i64 n_21) rfl) ?_
  refine JL.nil ?_
  refine JQ.seq ?_
  refine JC.ret ?_
  refine JQ.perm (pick_perm [1, 1, 1] (A := [rC x_8.a0 x_8.c0 m_9.s, rS x_8.a1 x_8.c1 m_9.r, rS x_8.a2 x_8.c2 m_9.w]) (F := [cb c_2 pa pc p qp_18 qs_19, mb b_1 x_8 m_9]) rfl).symm ?_
  refine Done.three (.inl rfl) rfl (RV.cell1 (LO.loadK 4 (vs := [.slice x_8.a0 m_9.s.length x_8.c0, .slice x_8.a1 m_9.r.length x_8.c1, .slice x_8.a2 m_9.w.length x_8.c2]) rfl rfl Tryz.isAgg32 Tryz.sizeOf32 rfl rfl) ⟨_, rfl⟩) (RV.tmp (v := .int .i64 n_15) rfl) (RV.tmp (v := .int .i64 n_21) rfl) (List.sublist_append_left [rC x_8.a0 x_8.c0 m_9.s, rS x_8.a1 x_8.c1 m_9.r, rS x_8.a2 x_8.c2 m_9.w] [cb c_2 pa pc p qp_18 qs_19, mb b_1 x_8 m_9]) ?_
  exact ⟨x_8, m_9, n_15, n_21, (k_10.mono (by omega) (by omega)), (by first | omega | (simp only [List.length_append, List.length_cons, List.length_nil, List.length_take, List.length_drop]; omega)), (by first | omega | (simp only [List.length_append, List.length_cons, List.length_nil, List.length_take, List.length_drop]; omega)), rfl, rfl⟩

end Go.Proofs.YtenfajgpdhgknaaGreatDoor
