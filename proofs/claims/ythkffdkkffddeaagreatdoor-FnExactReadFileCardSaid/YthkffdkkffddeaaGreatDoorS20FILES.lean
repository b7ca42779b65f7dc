/-
  Bytes of files (part 20).
-/
import Derived.Test.YthkffdkkffddeaaGreatDoorS18HEX
import Derived.Test.YthkffdkkffddeaaGreatDoorDatF
import Derived.Lib.MinMax
set_option linter.unusedSimpArgs false
set_option linter.unusedVariables false
set_option linter.unnecessarySimpa false
namespace Go.Proofs.YthkffdkkffddeaaGreatDoor
open Go Go.RowKit
section
variable {P : Program} {n : Nat} {e : Env} {d : Option Tmp} {ty : TypeId} {pos : String} {aft : Array Edge} {gd : Option (Nat × Bool)}
theorem PO.min2 {x y : Operand} {a b c : Int} {ts : Array TypeId} (hx : rd n e x = .int .i64 a) (hy : rd n e y = .int .i64 b) (hc : min a b = c) : PO P n e ⟨d, .call ⟨.builtin .min, #[x, y], ts⟩, ty, pos, aft, gd⟩ (.int .i64 c) := fun w => by
  subst hc
  simp [execOp, resolve, invoke, builtin, hx, hy, Lib.run_min_ints]
theorem PO.max2 {x y : Operand} {a b c : Int} {ts : Array TypeId} (hx : rd n e x = .int .i64 a) (hy : rd n e y = .int .i64 b) (hc : max a b = c) : PO P n e ⟨d, .call ⟨.builtin .max, #[x, y], ts⟩, ty, pos, aft, gd⟩ (.int .i64 c) := fun w => by
  subst hc
  simp [execOp, resolve, invoke, builtin, hx, hy, Lib.run_max_ints]
theorem PO.min3 {x y z : Operand} {a b q c : Int} {ts : Array TypeId} (hx : rd n e x = .int .i64 a) (hy : rd n e y = .int .i64 b) (hz : rd n e z = .int .i64 q) (hc : min (min a b) q = c) : PO P n e ⟨d, .call ⟨.builtin .min, #[x, y, z], ts⟩, ty, pos, aft, gd⟩ (.int .i64 c) := fun w => by
  have e1 : (if b < a then b else a) = min a b := by
    rw [Int.min_def]
    split <;> split <;> omega
  have e2 : (if q < min a b then q else min a b) = min (min a b) q := by
    generalize min a b = r
    rw [Int.min_def]
    split <;> split <;> omega
  subst hc
  simp [execOp, resolve, invoke, builtin, hx, hy, hz, Builtin.min_, Builtin.min2, e1, e2]
end
attribute [local irreducible] JL JC JQ JO LO PO JA JX Ct

theorem M_sizeFile (x : MA) (m : MS) {S T : Nat} (hk : m.ok S T) (hS : S ≤ 90000000) (hT : T ≤ 90000000) (id : Int) (hid : -9223372036854775808 ≤ id ∧ id ≤ 9223372036854775807) :
    Ct Tryz.prog 111 [mv x m, .int .i64 id] (mr x m) (fun _ => True) (fun v A' => ∃ x' m' r0, MS.sizeOf m id = (m', r0) ∧ m'.ok (S) (T + 1) ∧ (0 ≤ r0 ∧ r0 ≤ 999) ∧ v = .tuple #[mv x' m', .int .i64 r0] ∧ A' = mr x' m') := by
  refine Ct.intro Tryz.func111 rfl Tryz.ntmps111 (Nat.le_of_ble_eq_true rfl) fun w0 hpre => ?_
  refine JC.seq ?_
  refine JC.region ?_
  refine JL.op rfl (JO.box (cs := [.slice x.a0 m.s.length x.c0, .slice x.a1 m.r.length x.c1, .slice x.a2 m.w.length x.c2]) rfl rfl) ?_
  rintro _ _ ⟨b_1, rfl, rfl⟩
  refine JL.op rfl (JO.alloc (z := .agg #[.slice none 0 0, .slice none 0 0, .slice none 0 0]) (cs := [.slice none 0 0, .slice none 0 0, .slice none 0 0]) Tryz.zeroValue32 rfl) ?_
  rintro _ _ ⟨b_2, rfl, rfl⟩
  refine JL.pure rfl (PO.assign (v := .int .i64 0) rfl) ?_
  refine JL.nil ?_
  refine JQ.seq ?_
  refine JC.seq ?_
  refine JC.regionA [mb b_1 x m] 6 mixed (by simp) ?_
  refine JA.take 0 rfl (by kernel_rfl) (NP.th NP.body) (by kernel_rfl) (by kernel_rfl) (by kernel_rfl) rfl (LO.loadK 0 (vs := [.slice x.a0 m.s.length x.c0, .slice x.a1 m.r.length x.c1, .slice x.a2 m.w.length x.c2]) rfl rfl Tryz.isAgg32 Tryz.sizeOf32 rfl rfl) ?_
  refine JA.takeP 1 rfl (by kernel_rfl) (NP.th NP.body) (by kernel_rfl) (by kernel_rfl) rfl (PO.move (v := .int .i64 id) rfl) ?_
  refine JA.one (i := 2) (by kernel_rfl) ?_
  refine JX.op rfl rfl (JO.call [] Tryz.call116 rfl (N_sKeyNum [105, 47] id [47, 115] (show List.length ([105, 47] : Str) ≤ 2 by decide) (by omega) (show List.length ([47, 115] : Str) ≤ 2 by decide) (by omega)) rfl (fun _ _ => trivial)) ?_
  rintro _ _ ⟨_, ⟨u_9, e_7, f_10, rfl, rfl⟩, rfl⟩
  refine ⟨(by simp), ?_⟩
  refine JA.one (i := 3) (by kernel_rfl) ?_
  refine JX.op rfl rfl (JO.call [2, 2, 2] Tryz.call81 rfl (N_sNumAt x m hk (by omega) (by omega) u_9) rfl (fun _ _ => trivial)) ?_
  rintro _ _ ⟨_, ⟨x_19, m_20, n_21, e_17, k_18, f_22, rfl, rfl⟩, rfl⟩
  refine ⟨(by simp), ?_⟩
  refine JA.takeP 4 rfl (by kernel_rfl) (NP.th NP.body) (by kernel_rfl) (by kernel_rfl) rfl (PO.extract (v := mv x_19 m_20) rfl rfl) ?_
  refine JA.takeP 5 rfl (by kernel_rfl) (NP.th NP.body) (by kernel_rfl) (by kernel_rfl) rfl (PO.extract (v := .int .i64 n_21) rfl rfl) ?_
  refine JA.one (i := 6) (by kernel_rfl) ?_
  refine JX.late rfl rfl (by decide) (by kernel_rfl) (JO.store 3 (vs := [.slice x_19.a0 m_20.s.length x_19.c0, .slice x_19.a1 m_20.r.length x_19.c1, .slice x_19.a2 m_20.w.length x_19.c2]) (cs' := [.slice x_19.a0 m_20.s.length x_19.c0, .slice x_19.a1 m_20.r.length x_19.c1, .slice x_19.a2 m_20.w.length x_19.c2]) rfl rfl rfl rfl Tryz.sizeOf32 rfl rfl (Nat.le_of_ble_eq_true rfl) rfl) ?_
  rintro _ _ rfl
  refine JA.takeP 7 rfl (by kernel_rfl) (NP.th NP.body) (by kernel_rfl) (by kernel_rfl) rfl (PO.assign (v := .int .i64 n_21) rfl) ?_
  refine JA.done (by kernel_rfl) ?_
  refine JQ.seq ?_
  refine JC.ret ?_
  refine Done.two (.inl rfl) rfl (RV.cell1 (LO.loadK 3 (vs := [.slice x_19.a0 m_20.s.length x_19.c0, .slice x_19.a1 m_20.r.length x_19.c1, .slice x_19.a2 m_20.w.length x_19.c2]) rfl rfl Tryz.isAgg32 Tryz.sizeOf32 rfl rfl) ⟨_, rfl⟩) (RV.tmp (v := .int .i64 n_21) rfl) (List.sublist_append_left [rC x_19.a0 x_19.c0 m_20.s, rS x_19.a1 x_19.c1 m_20.r, rS x_19.a2 x_19.c2 m_20.w] [mb b_2 x_19 m_20, mb b_1 x m]) ?_
  exact ⟨x_19, m_20, n_21, (by simp only [MS.sizeOf, e_7, e_17, if_true, if_false, Bool.false_eq_true, Bool.not_true, Bool.not_false]; (repeat (first | rw [if_pos (by omega)] | rw [if_neg (by omega)])); all_goals (first | rfl | simp only [if_true, if_false, Bool.false_eq_true, Bool.not_true, Bool.not_false, e_7, e_17])), (k_18.mono (by omega) (by omega)), (by first | omega | (simp only [List.length_append, List.length_cons, List.length_nil, List.length_take, List.length_drop]; omega)), rfl, rfl⟩

theorem N_block (p : Nat) (x : MA) (m : MS) {S T : Nat} (hk : m.ok S T) (hS : S ≤ 90000000) (hT : T ≤ 90000000) (id : Int) (place : Int) (hid : -9223372036854775808 ≤ id ∧ id ≤ 9223372036854775807) (hplace : -9223372036854775808 ≤ place ∧ place ≤ 9223372036854775807) :
    Ct Tryz.prog 114 [.pointer (some ⟨p, 0, none⟩), .int .i64 id, .int .i64 place] (mb p x m :: mr x m) (fun w => HexOk w) (fun v A' => ∃ x' m' r0, MS.block m id place = (m', r0) ∧ m'.ok (S) (T + 1) ∧ r0.length ≤ 20000 ∧ v = str r0 ∧ A' = mb p x' m' :: mr x' m') := by
  refine Ct.introL Tryz.func114 rfl Tryz.ntmps114 (Nat.le_of_ble_eq_true rfl) fun w0 hpre hlow => ?_
  refine JC.seq ?_
  refine JC.region ?_
  refine JL.pure rfl (PO.assign (v := str []) rfl) ?_
  refine JL.nil ?_
  refine JQ.seq ?_
  refine JC.seq ?_
  refine JC.region ?_
  refine JL.pure rfl (PO.move (v := .pointer (some ⟨p, 0, none⟩)) rfl) ?_
  refine JL.pure rfl (PO.move (v := .int .i64 id) rfl) ?_
  refine JL.pure rfl (PO.move (v := .int .i64 place) rfl) ?_
  refine JL.op rfl (JO.call [] Tryz.call143 rfl (N_blockKey id place (by omega) (by omega)) rfl (fun _ _ => trivial)) ?_
  rintro _ _ ⟨_, ⟨u_3, e_1, f_4, rfl, rfl⟩, rfl⟩
  refine JL.op rfl (JO.call [0, 0, 0, 0] Tryz.call136 rfl (N_look p x m hk (by omega) (by omega) u_3) rfl (fun _ _ => trivial)) ?_
  rintro _ _ ⟨_, ⟨x_7, m_8, u_9, e_5, k_6, f_10, rfl, rfl⟩, rfl⟩
  refine JL.op rfl (JO.call [] Tryz.call142 rfl (N_unhex u_9 (by omega)) rfl (fun w hw => hw.hex hlow hpre)) ?_
  rintro _ _ ⟨_, ⟨u_13, b_15, e_11, f_14, rfl, rfl⟩, rfl⟩
  refine JL.pure rfl (PO.move (v := .tuple #[str u_13, .bool b_15]) rfl) ?_
  refine JL.pure rfl (PO.extract (v := str u_13) rfl rfl) ?_
  refine JL.pure rfl (PO.extract (v := .bool b_15) rfl rfl) ?_
  refine JL.pure rfl (PO.assign (v := str u_13) rfl) ?_
  refine JL.pure rfl (PO.assign (v := .bool b_15) rfl) ?_
  refine JL.nil ?_
  refine JQ.seq ?_
  refine JC.seq ?_
  refine JC.region ?_
  refine JL.pure rfl (PO.move (v := str u_13) rfl) ?_
  refine JL.pure rfl (PO.assign (v := str u_13) rfl) ?_
  refine JL.nil ?_
  refine JQ.seq ?_
  refine JC.ret ?_
  refine Done.one (.inl rfl) rfl (RV.tmp (v := str u_13) rfl) (List.Sublist.refl _) ?_
  exact ⟨x_7, m_8, u_13, (by simp only [MS.block, e_1, e_5, e_11, if_true, if_false, Bool.false_eq_true, Bool.not_true, Bool.not_false]; (repeat (first | rw [if_pos (by omega)] | rw [if_neg (by omega)])); all_goals (first | rfl | simp only [if_true, if_false, Bool.false_eq_true, Bool.not_true, Bool.not_false, e_1, e_5, e_11])), (k_6.mono (by omega) (by omega)), (by first | omega | (simp only [List.length_append, List.length_cons, List.length_nil, List.length_take, List.length_drop]; omega)), rfl, rfl⟩

theorem M_block (x : MA) (m : MS) {S T : Nat} (hk : m.ok S T) (hS : S ≤ 90000000) (hT : T ≤ 90000000) (id : Int) (place : Int) (hid : -9223372036854775808 ≤ id ∧ id ≤ 9223372036854775807) (hplace : -9223372036854775808 ≤ place ∧ place ≤ 9223372036854775807) :
    Ct Tryz.prog 112 [mv x m, .int .i64 id, .int .i64 place] (mr x m) (fun _ => True) (fun v A' => ∃ x' m' r0, MS.block m id place = (m', r0) ∧ m'.ok (S) (T + 1) ∧ r0.length ≤ 20000 ∧ v = .tuple #[mv x' m', str r0] ∧ A' = mr x' m') := by
  refine Ct.intro Tryz.func112 rfl Tryz.ntmps112 (Nat.le_of_ble_eq_true rfl) fun w0 hpre => ?_
  refine JC.seq ?_
  refine JC.region ?_
  refine JL.op rfl (JO.box (cs := [.slice x.a0 m.s.length x.c0, .slice x.a1 m.r.length x.c1, .slice x.a2 m.w.length x.c2]) rfl rfl) ?_
  rintro _ _ ⟨b_1, rfl, rfl⟩
  refine JL.op rfl (JO.alloc (z := .agg #[.slice none 0 0, .slice none 0 0, .slice none 0 0]) (cs := [.slice none 0 0, .slice none 0 0, .slice none 0 0]) Tryz.zeroValue32 rfl) ?_
  rintro _ _ ⟨b_2, rfl, rfl⟩
  refine JL.pure rfl (PO.assign (v := str []) rfl) ?_
  refine JL.nil ?_
  refine JQ.seq ?_
  refine JC.seq ?_
  refine JC.regionA [mb b_1 x m] 8 mixed (by simp) ?_
  refine JA.take 0 rfl (by kernel_rfl) (NP.th NP.body) (by kernel_rfl) (by kernel_rfl) (by kernel_rfl) rfl (LO.loadK 0 (vs := [.slice x.a0 m.s.length x.c0, .slice x.a1 m.r.length x.c1, .slice x.a2 m.w.length x.c2]) rfl rfl Tryz.isAgg32 Tryz.sizeOf32 rfl rfl) ?_
  refine JA.takeP 1 rfl (by kernel_rfl) (NP.th NP.body) (by kernel_rfl) (by kernel_rfl) rfl (PO.move (v := .int .i64 id) rfl) ?_
  refine JA.takeP 2 rfl (by kernel_rfl) (NP.th NP.body) (by kernel_rfl) (by kernel_rfl) rfl (PO.move (v := .int .i64 place) rfl) ?_
  refine JA.one (i := 3) (by kernel_rfl) ?_
  refine JX.op rfl rfl (JO.call [] Tryz.call140 rfl (N_l07Block id place (by omega) (by omega)) rfl (fun _ _ => trivial)) ?_
  rintro _ _ ⟨_, ⟨u_9, e_7, f_10, rfl, rfl⟩, rfl⟩
  refine ⟨(by simp), ?_⟩
  refine JA.one (i := 4) (by kernel_rfl) ?_
  refine JX.op rfl rfl (JO.call [2, 2, 2] Tryz.call129 rfl (N_sLook x m hk (by omega) (by omega) u_9) rfl (fun _ _ => trivial)) ?_
  rintro _ _ ⟨_, ⟨x_19, m_20, u_21, e_17, k_18, f_22, rfl, rfl⟩, rfl⟩
  refine ⟨(by simp), ?_⟩
  refine JA.takeP 5 rfl (by kernel_rfl) (NP.th NP.body) (by kernel_rfl) (by kernel_rfl) rfl (PO.move (v := .tuple #[mv x_19 m_20, str u_21]) rfl) ?_
  refine JA.takeP 6 rfl (by kernel_rfl) (NP.th NP.body) (by kernel_rfl) (by kernel_rfl) rfl (PO.extract (v := mv x_19 m_20) rfl rfl) ?_
  refine JA.takeP 7 rfl (by kernel_rfl) (NP.th NP.body) (by kernel_rfl) (by kernel_rfl) rfl (PO.extract (v := str u_21) rfl rfl) ?_
  refine JA.one (i := 8) (by kernel_rfl) ?_
  refine JX.late rfl rfl (by decide) (by kernel_rfl) (JO.store 4 (vs := [.slice x_19.a0 m_20.s.length x_19.c0, .slice x_19.a1 m_20.r.length x_19.c1, .slice x_19.a2 m_20.w.length x_19.c2]) (cs' := [.slice x_19.a0 m_20.s.length x_19.c0, .slice x_19.a1 m_20.r.length x_19.c1, .slice x_19.a2 m_20.w.length x_19.c2]) rfl rfl rfl rfl Tryz.sizeOf32 rfl rfl (Nat.le_of_ble_eq_true rfl) rfl) ?_
  rintro _ _ rfl
  refine JA.takeP 9 rfl (by kernel_rfl) (NP.th NP.body) (by kernel_rfl) (by kernel_rfl) rfl (PO.assign (v := str u_21) rfl) ?_
  refine JA.done (by kernel_rfl) ?_
  refine JQ.seq ?_
  refine JC.seq ?_
  refine JC.region ?_
  refine JL.pure rfl (PO.move (v := str u_21) rfl) ?_
  refine JL.op rfl (JO.call [] Tryz.call141 rfl (N_sUnhex u_21 (by omega)) rfl (fun _ _ => trivial)) ?_
  rintro _ _ ⟨_, ⟨u_25, b_27, e_23, f_26, rfl, rfl⟩, rfl⟩
  refine JL.pure rfl (PO.move (v := .tuple #[str u_25, .bool b_27]) rfl) ?_
  refine JL.pure rfl (PO.extract (v := str u_25) rfl rfl) ?_
  refine JL.pure rfl (PO.extract (v := .bool b_27) rfl rfl) ?_
  refine JL.pure rfl (PO.assign (v := str u_25) rfl) ?_
  refine JL.pure rfl (PO.assign (v := .bool b_27) rfl) ?_
  refine JL.nil ?_
  refine JQ.seq ?_
  refine JC.seq ?_
  refine JC.seq ?_
  refine JC.region ?_
  refine JL.pure rfl (PO.move (v := .bool b_27) rfl) ?_
  refine JL.pure rfl (PO.not rfl) ?_
  refine JL.nil ?_
  refine JQ.seq ?_
  rcases Bool.eq_false_or_eq_true (b_27) with h_28 | h_28
  · skip
    refine JC.condF (congrArg Value.bool (congrArg Bool.not h_28)) ?_
    refine JC.skip ?_
    refine JQ.seq ?_
    refine JC.seq ?_
    refine JC.region ?_
    refine JL.ld rfl (LO.loadK 4 (vs := [.slice x_19.a0 m_20.s.length x_19.c0, .slice x_19.a1 m_20.r.length x_19.c1, .slice x_19.a2 m_20.w.length x_19.c2]) rfl rfl Tryz.isAgg32 Tryz.sizeOf32 rfl rfl) ?_
    refine JL.pure rfl (PO.move (v := str u_25) rfl) ?_
    refine JL.op rfl (JO.store 3 (vs := [.slice x_19.a0 m_20.s.length x_19.c0, .slice x_19.a1 m_20.r.length x_19.c1, .slice x_19.a2 m_20.w.length x_19.c2]) (cs' := [.slice x_19.a0 m_20.s.length x_19.c0, .slice x_19.a1 m_20.r.length x_19.c1, .slice x_19.a2 m_20.w.length x_19.c2]) rfl rfl rfl rfl Tryz.sizeOf32 rfl rfl (Nat.le_of_ble_eq_true rfl) rfl) ?_
    rintro _ _ rfl
    refine JL.pure rfl (PO.assign (v := str u_25) rfl) ?_
    refine JL.nil ?_
    refine JQ.seq ?_
    refine JC.ret ?_
    refine Done.two (.inl rfl) rfl (RV.cell1 (LO.loadK 3 (vs := [.slice x_19.a0 m_20.s.length x_19.c0, .slice x_19.a1 m_20.r.length x_19.c1, .slice x_19.a2 m_20.w.length x_19.c2]) rfl rfl Tryz.isAgg32 Tryz.sizeOf32 rfl rfl) ⟨_, rfl⟩) (RV.tmp (v := str u_25) rfl) (List.sublist_append_left [rC x_19.a0 x_19.c0 m_20.s, rS x_19.a1 x_19.c1 m_20.r, rS x_19.a2 x_19.c2 m_20.w] [mb b_2 x_19 m_20, mb b_1 x_19 m_20]) ?_
    exact ⟨x_19, m_20, u_25, (by simp only [MS.block, e_7, e_17, e_23, h_28, if_true, if_false, Bool.false_eq_true, Bool.not_true, Bool.not_false]; (repeat (first | rw [if_pos (by omega)] | rw [if_neg (by omega)])); all_goals (first | rfl | simp only [if_true, if_false, Bool.false_eq_true, Bool.not_true, Bool.not_false, e_7, e_17, e_23, h_28])), (k_18.mono (by omega) (by omega)), (by first | omega | (simp only [List.length_append, List.length_cons, List.length_nil, List.length_take, List.length_drop]; omega)), rfl, rfl⟩
  · skip
    have hu := unhex_fst (e_23.trans (congrArg _ h_28))
    refine JC.condT (congrArg Value.bool (congrArg Bool.not h_28)) ?_
    refine JC.seq ?_
    refine JC.region ?_
    refine JL.ld rfl (LO.loadK 4 (vs := [.slice x_19.a0 m_20.s.length x_19.c0, .slice x_19.a1 m_20.r.length x_19.c1, .slice x_19.a2 m_20.w.length x_19.c2]) rfl rfl Tryz.isAgg32 Tryz.sizeOf32 rfl rfl) ?_
    refine JL.op rfl (JO.store 3 (vs := [.slice x_19.a0 m_20.s.length x_19.c0, .slice x_19.a1 m_20.r.length x_19.c1, .slice x_19.a2 m_20.w.length x_19.c2]) (cs' := [.slice x_19.a0 m_20.s.length x_19.c0, .slice x_19.a1 m_20.r.length x_19.c1, .slice x_19.a2 m_20.w.length x_19.c2]) rfl rfl rfl rfl Tryz.sizeOf32 rfl rfl (Nat.le_of_ble_eq_true rfl) rfl) ?_
    rintro _ _ rfl
    refine JL.pure rfl (PO.assign (v := str []) rfl) ?_
    refine JL.nil ?_
    refine JQ.seq ?_
    refine JC.ret ?_
    refine JQ.thenRet ?_
    refine Done.two (.inl rfl) rfl (RV.cell1 (LO.loadK 3 (vs := [.slice x_19.a0 m_20.s.length x_19.c0, .slice x_19.a1 m_20.r.length x_19.c1, .slice x_19.a2 m_20.w.length x_19.c2]) rfl rfl Tryz.isAgg32 Tryz.sizeOf32 rfl rfl) ⟨_, rfl⟩) (RV.tmp (v := str []) rfl) (List.sublist_append_left [rC x_19.a0 x_19.c0 m_20.s, rS x_19.a1 x_19.c1 m_20.r, rS x_19.a2 x_19.c2 m_20.w] [mb b_2 x_19 m_20, mb b_1 x_19 m_20]) ?_
    exact ⟨x_19, m_20, [], (by simp only [MS.block, e_7, e_17, e_23, h_28, hu, if_true, if_false, Bool.false_eq_true, Bool.not_true, Bool.not_false]; (repeat (first | rw [if_pos (by omega)] | rw [if_neg (by omega)])); all_goals (first | rfl | simp only [if_true, if_false, Bool.false_eq_true, Bool.not_true, Bool.not_false, e_7, e_17, e_23, h_28, hu])), (k_18.mono (by omega) (by omega)), (by first | omega | (simp only [List.length_append, List.length_cons, List.length_nil, List.length_take, List.length_drop]; omega)), rfl, rfl⟩

theorem N_readFile (p : Nat) (x : MA) (m : MS) {S T : Nat} (hk : m.ok S T) (hS : S ≤ 50000000) (hT : T ≤ 50000000) (id : Int) (at_ : Int) (n : Int) (hid : -9223372036854775808 ≤ id ∧ id ≤ 9223372036854775807) (hat_ : -9223372036854775808 ≤ at_ ∧ at_ ≤ 9223372036854775807) (hn : -9223372036854775808 ≤ n ∧ n ≤ 9223372036854775807) :
    Ct Tryz.prog 65 [.pointer (some ⟨p, 0, none⟩), .int .i64 id, .int .i64 at_, .int .i64 n] (mb p x m :: mr x m) (fun w => HexOk w) (fun v A' => ∃ x' m' r0, MS.readFile m id at_ n = (m', r0) ∧ m'.ok (S) (T + 130) ∧ r0.length ≤ 1016 ∧ v = str r0 ∧ A' = mb p x' m' :: mr x' m') := by
  refine Ct.introL Tryz.func65 rfl Tryz.ntmps65 (Nat.le_of_ble_eq_true rfl) fun w0 hpre hlow => ?_
  refine JC.seq ?_
  refine JC.region ?_
  refine JL.pure rfl (PO.assign (v := str []) rfl) ?_
  refine JL.nil ?_
  refine JQ.seq ?_
  refine JC.seq ?_
  refine JC.region ?_
  refine JL.pure rfl (PO.move (v := .pointer (some ⟨p, 0, none⟩)) rfl) ?_
  refine JL.pure rfl (PO.move (v := .int .i64 id) rfl) ?_
  refine JL.op rfl (JO.call [] Tryz.call113 rfl (N_sizeKey id (by omega)) rfl (fun _ _ => trivial)) ?_
  rintro _ _ ⟨_, ⟨u_3, e_1, f_4, rfl, rfl⟩, rfl⟩
  refine JL.op rfl (JO.call [0, 0, 0, 0] Tryz.call91 rfl (N_num p x m hk (by omega) (by omega) u_3) rfl (fun _ _ => trivial)) ?_
  rintro _ _ ⟨_, ⟨x_7, m_8, n_9, e_5, k_6, f_10, rfl, rfl⟩, rfl⟩
  refine JL.pure rfl (PO.assign (v := .int .i64 n_9) rfl) ?_
  refine JL.nil ?_
  refine JQ.seq ?_
  refine JC.seq ?_
  refine JC.seq ?_
  refine JC.region ?_
  refine JL.pure rfl (PO.move (v := .int .i64 at_) rfl) ?_
  refine JL.pure rfl (PO.lss rfl rfl) ?_
  refine JL.pure rfl (PO.move (v := .bool (decide (at_ < 0))) rfl) ?_
  by_cases h_11 : at_ < 0
  · skip
    refine JL.guardOff (b := true) rfl rfl rfl (congrArg Value.bool (decide_eq_true h_11)) ?_
    refine JL.guardOff (b := true) rfl rfl rfl (congrArg Value.bool (decide_eq_true h_11)) ?_
    refine JL.pure rfl (PO.pickT (v := .bool true) (congrArg Value.bool (decide_eq_true h_11)) rfl) ?_
    refine JL.pure rfl (PO.move (v := .bool true) rfl) ?_
    refine JL.guardOff (b := true) rfl rfl rfl (congrArg Value.bool rfl) ?_
    refine JL.guardOff (b := true) rfl rfl rfl (congrArg Value.bool rfl) ?_
    refine JL.guardOff (b := true) rfl rfl rfl (congrArg Value.bool rfl) ?_
    refine JL.pure rfl (PO.pickT (v := .bool true) (congrArg Value.bool rfl) rfl) ?_
    refine JL.nil ?_
    refine JQ.seq ?_
    refine JC.condT (congrArg Value.bool rfl) ?_
    refine JC.seq ?_
    refine JC.region ?_
    refine JL.pure rfl (PO.assign (v := str []) rfl) ?_
    refine JL.nil ?_
    refine JQ.seq ?_
    refine JC.ret ?_
    refine JQ.thenRet ?_
    refine Done.one (.inl rfl) rfl (RV.tmp (v := str []) rfl) (List.Sublist.refl _) ?_
    exact ⟨x_7, m_8, [], (by simp only [MS.readFile, Int.toNat_natCast, true_or, or_true, false_or, or_false, MS.sizeOf, e_1, e_5, h_11, if_true, if_false, Bool.false_eq_true, Bool.not_true, Bool.not_false]; (repeat (first | rw [if_pos (by omega)] | rw [if_neg (by omega)])); all_goals (first | rfl | simp only [if_true, if_false, Bool.false_eq_true, Bool.not_true, Bool.not_false, e_1, e_5, h_11])), (k_6.mono (by omega) (by omega)), (by first | omega | (simp only [List.length_append, List.length_cons, List.length_nil, List.length_take, List.length_drop]; omega)), rfl, rfl⟩
  · skip
    obtain ⟨a, hat⟩ : ∃ a : Nat, at_ = ((a : Nat) : Int) := ⟨at_.toNat, by omega⟩
    refine JL.guardOn rfl rfl rfl (congrArg Value.bool (decide_eq_false h_11)) (JO.ofLO (LO.pure (PO.move (v := .int .i64 n) rfl))) ?_
    rintro _ _ ⟨rfl, rfl⟩
    refine JL.guardOn rfl rfl rfl (congrArg Value.bool (decide_eq_false h_11)) (JO.ofLO (LO.pure (PO.lss rfl rfl))) ?_
    rintro _ _ ⟨rfl, rfl⟩
    refine JL.pure rfl (PO.pickF (v := .bool (decide (n < 1))) (congrArg Value.bool (decide_eq_false h_11)) rfl) ?_
    refine JL.pure rfl (PO.move (v := .bool (decide (n < 1))) rfl) ?_
    by_cases h_12 : n < 1
    · skip
      refine JL.guardOff (b := true) rfl rfl rfl (congrArg Value.bool (decide_eq_true h_12)) ?_
      refine JL.guardOff (b := true) rfl rfl rfl (congrArg Value.bool (decide_eq_true h_12)) ?_
      refine JL.guardOff (b := true) rfl rfl rfl (congrArg Value.bool (decide_eq_true h_12)) ?_
      refine JL.pure rfl (PO.pickT (v := .bool true) (congrArg Value.bool (decide_eq_true h_12)) rfl) ?_
      refine JL.nil ?_
      refine JQ.seq ?_
      refine JC.condT (congrArg Value.bool rfl) ?_
      refine JC.seq ?_
      refine JC.region ?_
      refine JL.pure rfl (PO.assign (v := str []) rfl) ?_
      refine JL.nil ?_
      refine JQ.seq ?_
      refine JC.ret ?_
      refine JQ.thenRet ?_
      refine Done.one (.inl rfl) rfl (RV.tmp (v := str []) rfl) (List.Sublist.refl _) ?_
      exact ⟨x_7, m_8, [], (by simp only [MS.readFile, Int.toNat_natCast, true_or, or_true, false_or, or_false, MS.sizeOf, e_1, e_5, h_11, hat, h_12, if_true, if_false, Bool.false_eq_true, Bool.not_true, Bool.not_false]; (repeat (first | rw [if_pos (by omega)] | rw [if_neg (by omega)])); all_goals (first | rfl | simp only [if_true, if_false, Bool.false_eq_true, Bool.not_true, Bool.not_false, e_1, e_5, h_11, hat, h_12])), (k_6.mono (by omega) (by omega)), (by first | omega | (simp only [List.length_append, List.length_cons, List.length_nil, List.length_take, List.length_drop]; omega)), rfl, rfl⟩
    · skip
      refine JL.guardOn rfl rfl rfl (congrArg Value.bool (decide_eq_false h_12)) (JO.ofLO (LO.pure (PO.move (v := .int .i64 ((a : Nat) : Int)) (congrArg (Value.int .i64) hat)))) ?_
      rintro _ _ ⟨rfl, rfl⟩
      refine JL.guardOn rfl rfl rfl (congrArg Value.bool (decide_eq_false h_12)) (JO.ofLO (LO.pure (PO.move (v := .int .i64 n_9) rfl))) ?_
      rintro _ _ ⟨rfl, rfl⟩
      refine JL.guardOn rfl rfl rfl (congrArg Value.bool (decide_eq_false h_12)) (JO.ofLO (LO.pure (PO.geq rfl rfl))) ?_
      rintro _ _ ⟨rfl, rfl⟩
      refine JL.pure rfl (PO.pickF (v := .bool (decide (n_9 ≤ ((a : Nat) : Int)))) (congrArg Value.bool (decide_eq_false h_12)) rfl) ?_
      refine JL.nil ?_
      refine JQ.seq ?_
      by_cases h_13 : n_9 ≤ ((a : Nat) : Int)
      · skip
        refine JC.condT (congrArg Value.bool (decide_eq_true h_13)) ?_
        refine JC.seq ?_
        refine JC.region ?_
        refine JL.pure rfl (PO.assign (v := str []) rfl) ?_
        refine JL.nil ?_
        refine JQ.seq ?_
        refine JC.ret ?_
        refine JQ.thenRet ?_
        refine Done.one (.inl rfl) rfl (RV.tmp (v := str []) rfl) (List.Sublist.refl _) ?_
        exact ⟨x_7, m_8, [], (by simp only [MS.readFile, Int.toNat_natCast, true_or, or_true, false_or, or_false, MS.sizeOf, e_1, e_5, h_11, hat, h_12, h_13, if_true, if_false, Bool.false_eq_true, Bool.not_true, Bool.not_false]; (repeat (first | rw [if_pos (by omega)] | rw [if_neg (by omega)])); all_goals (first | rfl | simp only [if_true, if_false, Bool.false_eq_true, Bool.not_true, Bool.not_false, e_1, e_5, h_11, hat, h_12, h_13])), (k_6.mono (by omega) (by omega)), (by first | omega | (simp only [List.length_append, List.length_cons, List.length_nil, List.length_take, List.length_drop]; omega)), rfl, rfl⟩
      · skip
        refine JC.condF (congrArg Value.bool (decide_eq_false h_13)) ?_
        refine JC.skip ?_
        refine JQ.seq ?_
        refine JC.seq ?_
        refine JC.region ?_
        refine JL.pure rfl (PO.move (v := .int .i64 ((a : Nat) : Int)) (congrArg (Value.int .i64) hat)) ?_
        refine JL.pure rfl (PO.move (v := .int .i64 n) rfl) ?_
        refine JL.pure rfl (PO.move (v := .int .i64 n_9) rfl) ?_
        refine JL.pure rfl (PO.move (v := .int .i64 ((a : Nat) : Int)) (congrArg (Value.int .i64) hat)) ?_
        refine JL.pure rfl (PO.sub (c := n_9 - ((a : Nat) : Int)) rfl rfl (wr (by omega))) ?_
        refine JL.pure rfl (PO.min2 (c := min n (n_9 - ((a : Nat) : Int))) rfl rfl rfl) ?_
        refine JL.pure rfl (PO.add (c := ((a : Nat) : Int) + (min n (n_9 - ((a : Nat) : Int)))) rfl rfl (wr (by omega))) ?_
        refine JL.pure rfl (PO.assign (v := .int .i64 (((a : Nat) : Int) + (min n (n_9 - ((a : Nat) : Int))))) rfl) ?_
        refine JL.nil ?_
        refine JQ.seq ?_
        refine JC.seq ?_
        refine JC.region ?_
        refine JL.pure rfl (PO.assign (v := str []) rfl) ?_
        refine JL.nil ?_
        refine JQ.seq ?_
        refine JC.seq ?_
        refine JC.seq ?_
        refine JC.region ?_
        refine JL.pure rfl (PO.move (v := .int .i64 ((a : Nat) : Int)) (congrArg (Value.int .i64) hat)) ?_
        refine JL.pure rfl (PO.quoN (c := ((a / 8 : Nat) : Int)) rfl rfl (by omega) (by omega) (by omega) (wr (by omega))) ?_
        refine JL.pure rfl (PO.assign (v := .int .i64 ((a / 8 : Nat) : Int)) rfl) ?_
        refine JL.nil ?_
        refine JQ.seq ?_
        refine JC.block ?_
        obtain ⟨E, hE, hE2⟩ : ∃ E : Nat, ((a : Nat) : Int) + min n (n_9 - ((a : Nat) : Int)) = (E : Int) ∧ ((a : Nat) : Int) + (min n (n_9 - ((a : Nat) : Int))) = (E : Int) := ⟨(((a : Nat) : Int) + (min n (n_9 - ((a : Nat) : Int)))).toNat, by omega, by omega⟩
        have hE3 : a < E ∧ E ≤ 999 := by omega
        refine JC.loop (fun k_ e_ L_ => ∃ p_ : Nat, ∃ x1 : MA, ∃ mm : MS, ∃ o_ : Str, (mm.ok (S) (T + 2 + p_)) ∧ (a / 8 ≤ p_ ∧ p_ ≤ 125) ∧ (o_.length + 8 * (a / 8) ≤ 8 * p_) ∧ (MS.readL id a E (130 - p_) p_ mm o_ = MS.readL id a E (130 - a / 8) (a / 8) m_8 []) ∧ e_ 0 = .pointer (some ⟨p, 0, none⟩) ∧ e_ 1 = .int .i64 id ∧ e_ 2 = .int .i64 ((a : Nat) : Int) ∧ e_ 8 = str [] ∧ e_ 10 = .int .i64 ((E : Nat) : Int) ∧ e_ 11 = str o_ ∧ e_ 12 = .int .i64 ((p_ : Nat) : Int) ∧ L_ = [mb p x1 mm, rC x1.a0 x1.c0 mm.s, rS x1.a1 x1.c1 mm.r, rS x1.a2 x1.c2 mm.w] ∧ k_ = 126 - p_) _ ⟨(a / 8), x_7, m_8, [], (k_6.mono (by omega) (by omega)), (by omega), (by simp only [List.length_nil]; omega), rfl, rfl, rfl, (congrArg (Value.int .i64) hat), rfl, (congrArg (Value.int .i64) hE2), rfl, rfl, rfl, rfl⟩ ?_
        rintro _ e_14 _ ⟨p_, x1, mm, o_, hkmm, hp0, ho, hR, he_15, he_16, he_17, he_18, he_19, he_20, he_21, rfl, rfl⟩
        refine JC.seq ?_
        refine JC.seq ?_
        refine JC.region ?_
        refine JL.pure rfl (PO.move (v := .int .i64 ((p_ : Nat) : Int)) he_21) ?_
        refine JL.pure rfl (PO.mul (c := ((p_ * 8 : Nat) : Int)) rfl rfl (wr (by omega))) ?_
        refine JL.pure rfl (PO.move (v := .int .i64 ((E : Nat) : Int)) he_19) ?_
        refine JL.pure rfl (PO.lss rfl rfl) ?_
        refine JL.nil ?_
        refine JQ.seq ?_
        by_cases h_22 : ((p_ * 8 : Nat) : Int) < ((E : Nat) : Int)
        · skip
          refine JC.condT (congrArg Value.bool (decide_eq_true h_22)) ?_
          refine JC.skip ?_
          refine JQ.seq ?_
          refine JC.seq ?_
          refine JC.block ?_
          refine JC.seq ?_
          refine JC.region ?_
          refine JL.pure rfl (PO.move (v := .pointer (some ⟨p, 0, none⟩)) he_15) ?_
          refine JL.pure rfl (PO.move (v := .int .i64 id) he_16) ?_
          refine JL.pure rfl (PO.move (v := .int .i64 ((p_ : Nat) : Int)) he_21) ?_
          refine JL.op rfl (JO.call [0, 0, 0, 0] Tryz.call114 rfl (N_block p x1 mm hkmm (by omega) (by omega) id ((p_ : Nat) : Int) (by omega) (by omega)) rfl (fun w hw => hw.hex hlow hpre)) ?_
          rintro _ _ ⟨_, ⟨x_25, m_26, u_27, e_23, k_24, f_28, rfl, rfl⟩, rfl⟩
          refine JL.pure rfl (PO.assign (v := str u_27) rfl) ?_
          refine JL.nil ?_
          refine JQ.seq ?_
          refine JC.seq ?_
          refine JC.region ?_
          refine JL.pure rfl (PO.move (v := .int .i64 ((a : Nat) : Int)) he_17) ?_
          refine JL.pure rfl (PO.move (v := .int .i64 ((p_ : Nat) : Int)) he_21) ?_
          refine JL.pure rfl (PO.mul (c := ((p_ * 8 : Nat) : Int)) rfl rfl (wr (by omega))) ?_
          refine JL.pure rfl (PO.sub (c := ((a : Nat) : Int) - ((p_ * 8 : Nat) : Int)) rfl rfl (wr (by omega))) ?_
          refine JL.pure rfl (PO.max2 (c := ((a - p_ * 8 : Nat) : Int)) rfl rfl (by omega)) ?_
          refine JL.pure rfl (PO.assign (v := .int .i64 ((a - p_ * 8 : Nat) : Int)) rfl) ?_
          refine JL.nil ?_
          refine JQ.seq ?_
          refine JC.seq ?_
          refine JC.region ?_
          refine JL.pure rfl (PO.move (v := .int .i64 ((E : Nat) : Int)) he_19) ?_
          refine JL.pure rfl (PO.move (v := .int .i64 ((p_ : Nat) : Int)) he_21) ?_
          refine JL.pure rfl (PO.mul (c := ((p_ * 8 : Nat) : Int)) rfl rfl (wr (by omega))) ?_
          refine JL.pure rfl (PO.sub (c := ((E : Nat) : Int) - ((p_ * 8 : Nat) : Int)) rfl rfl (wr (by omega))) ?_
          refine JL.pure rfl (PO.move (v := str u_27) rfl) ?_
          refine JL.pure rfl (PO.lenS Tryz.underlying9 rfl) ?_
          refine JL.pure rfl (PO.min3 (c := ((min (min (E - p_ * 8) 8) u_27.length : Nat) : Int)) rfl rfl rfl (by omega)) ?_
          refine JL.pure rfl (PO.assign (v := .int .i64 ((min (min (E - p_ * 8) 8) u_27.length : Nat) : Int)) rfl) ?_
          refine JL.nil ?_
          refine JQ.seq ?_
          refine JC.seq ?_
          refine JC.region ?_
          refine JL.pure rfl (PO.move (v := .int .i64 ((a - p_ * 8 : Nat) : Int)) rfl) ?_
          refine JL.pure rfl (PO.move (v := .int .i64 ((min (min (E - p_ * 8) 8) u_27.length : Nat) : Int)) rfl) ?_
          refine JL.pure rfl (PO.lss rfl rfl) ?_
          refine JL.nil ?_
          refine JQ.seq ?_
          by_cases h_29 : ((a - p_ * 8 : Nat) : Int) < ((min (min (E - p_ * 8) 8) u_27.length : Nat) : Int)
          · skip
            have hp : piece u_27 (a - p_ * 8) (min (min (E - p_ * 8) 8) u_27.length) = (u_27.drop (a - p_ * 8)).take ((min (min (E - p_ * 8) 8) u_27.length) - (a - p_ * 8)) := rfl
            refine JC.condT (congrArg Value.bool (decide_eq_true h_29)) ?_
            refine JC.region ?_
            refine JL.pure rfl (PO.move (v := str o_) he_20) ?_
            refine JL.pure rfl (PO.move (v := str u_27) rfl) ?_
            refine JL.pure rfl (PO.move (v := .int .i64 ((a - p_ * 8 : Nat) : Int)) rfl) ?_
            refine JL.pure rfl (PO.move (v := .int .i64 ((min (min (E - p_ * 8) 8) u_27.length : Nat) : Int)) rfl) ?_
            refine JL.pure rfl (PO.sliceS (i := (a - p_ * 8)) (j := (min (min (E - p_ * 8) 8) u_27.length)) Tryz.underlying9 rfl rfl rfl (by omega) (by omega)) ?_
            refine JL.pure rfl (PO.addS rfl rfl (by (try simp only [List.length_append, List.length_cons, List.length_nil, List.length_drop, List.length_take]); omega)) ?_
            refine JL.pure rfl (PO.assign (v := str (o_ ++ ((u_27.drop (a - p_ * 8)).take ((min (min (E - p_ * 8) 8) u_27.length) - (a - p_ * 8))))) rfl) ?_
            refine JL.nil ?_
            refine JQ.blockN ?_
            refine JQ.seq ?_
            refine JC.region ?_
            refine JL.pure rfl (PO.move (v := .int .i64 ((p_ : Nat) : Int)) he_21) ?_
            refine JL.pure rfl (PO.add (c := ((p_ + 1 : Nat) : Int)) rfl rfl (wr (by omega))) ?_
            refine JL.pure rfl (PO.assign (v := .int .i64 ((p_ + 1 : Nat) : Int)) rfl) ?_
            refine JL.nil ?_
            refine JQ.pick [0, 0, 0, 0] (A := [mb p x_25 m_26, rC x_25.a0 x_25.c0 m_26.s, rS x_25.a1 x_25.c1 m_26.r, rS x_25.a2 x_25.c2 m_26.w]) rfl ?_
            refine JQ.again (126 - (p_ + 1)) (by omega) ⟨(p_ + 1), x_25, m_26, (o_ ++ ((u_27.drop (a - p_ * 8)).take ((min (min (E - p_ * 8) 8) u_27.length) - (a - p_ * 8)))), (k_24.mono (by omega) (by omega)), (by omega), (by first | omega | (simp only [List.length_append, List.length_take, List.length_drop]; omega)), (by rw [show 130 - p_ = (130 - (p_ + 1)) + 1 by omega, MS.readL, if_pos (by omega)] at hR; simp only [e_1, e_5, e_23, hp, List.append_nil] at hR; exact hR), he_15, he_16, he_17, he_18, he_19, rfl, rfl, rfl, rfl⟩
          · skip
            have hp : piece u_27 (a - p_ * 8) (min (min (E - p_ * 8) 8) u_27.length) = [] := piece_nil (by omega)
            refine JC.condF (congrArg Value.bool (decide_eq_false h_29)) ?_
            refine JC.skip ?_
            refine JQ.blockN ?_
            refine JQ.seq ?_
            refine JC.region ?_
            refine JL.pure rfl (PO.move (v := .int .i64 ((p_ : Nat) : Int)) he_21) ?_
            refine JL.pure rfl (PO.add (c := ((p_ + 1 : Nat) : Int)) rfl rfl (wr (by omega))) ?_
            refine JL.pure rfl (PO.assign (v := .int .i64 ((p_ + 1 : Nat) : Int)) rfl) ?_
            refine JL.nil ?_
            refine JQ.pick [0, 0, 0, 0] (A := [mb p x_25 m_26, rC x_25.a0 x_25.c0 m_26.s, rS x_25.a1 x_25.c1 m_26.r, rS x_25.a2 x_25.c2 m_26.w]) rfl ?_
            refine JQ.again (126 - (p_ + 1)) (by omega) ⟨(p_ + 1), x_25, m_26, o_, (k_24.mono (by omega) (by omega)), (by omega), (by first | omega | (simp only [List.length_append, List.length_take, List.length_drop]; omega)), (by rw [show 130 - p_ = (130 - (p_ + 1)) + 1 by omega, MS.readL, if_pos (by omega)] at hR; simp only [e_1, e_5, e_23, hp, List.append_nil] at hR; exact hR), he_15, he_16, he_17, he_18, he_19, he_20, rfl, rfl, rfl⟩
        · skip
          rw [MS.readL_stop (by omega)] at hR
          have hRE := hR.symm
          refine JC.condF (congrArg Value.bool (decide_eq_false h_22)) ?_
          refine JC.exit ?_
          refine JQ.thenExit ?_
          refine JQ.thenExit ?_
          refine JQ.blockE ?_
          refine JQ.seq ?_
          refine JC.seq ?_
          refine JC.region ?_
          refine JL.pure rfl (PO.move (v := str o_) he_20) ?_
          refine JL.pure rfl (PO.assign (v := str o_) rfl) ?_
          refine JL.nil ?_
          refine JQ.seq ?_
          refine JC.ret ?_
          refine Done.one (.inl rfl) rfl (RV.tmp (v := str o_) rfl) (List.Sublist.refl _) ?_
          exact ⟨x1, mm, o_, (by simp only [MS.readFile, Int.toNat_natCast, true_or, or_true, false_or, or_false, MS.sizeOf, e_1, e_5, h_11, hat, h_12, h_13, hE, h_22, hRE, if_true, if_false, Bool.false_eq_true, Bool.not_true, Bool.not_false]; (repeat (first | rw [if_pos (by omega)] | rw [if_neg (by omega)])); all_goals (first | rfl | simp only [if_true, if_false, Bool.false_eq_true, Bool.not_true, Bool.not_false, e_1, e_5, h_11, hat, h_12, h_13, hE, h_22, hRE])), (hkmm.mono (by omega) (by omega)), (by first | omega | (simp only [List.length_append, List.length_cons, List.length_nil, List.length_take, List.length_drop]; omega)), rfl, rfl⟩

theorem M_readFile (x : MA) (m : MS) {S T : Nat} (hk : m.ok S T) (hS : S ≤ 50000000) (hT : T ≤ 50000000) (id : Int) (at_ : Int) (n : Int) (hid : -9223372036854775808 ≤ id ∧ id ≤ 9223372036854775807) (hat_ : -9223372036854775808 ≤ at_ ∧ at_ ≤ 9223372036854775807) (hn : -9223372036854775808 ≤ n ∧ n ≤ 9223372036854775807) :
    Ct Tryz.prog 64 [mv x m, .int .i64 id, .int .i64 at_, .int .i64 n] (mr x m) (fun _ => True) (fun v A' => ∃ x' m' r0, MS.readFile m id at_ n = (m', r0) ∧ m'.ok (S) (T + 130) ∧ r0.length ≤ 1016 ∧ v = .tuple #[mv x' m', str r0] ∧ A' = mr x' m') := by
  refine Ct.intro Tryz.func64 rfl Tryz.ntmps64 (Nat.le_of_ble_eq_true rfl) fun w0 hpre => ?_
  refine JC.seq ?_
  refine JC.region ?_
  refine JL.op rfl (JO.box (cs := [.slice x.a0 m.s.length x.c0, .slice x.a1 m.r.length x.c1, .slice x.a2 m.w.length x.c2]) rfl rfl) ?_
  rintro _ _ ⟨b_1, rfl, rfl⟩
  refine JL.op rfl (JO.alloc (z := .agg #[.slice none 0 0, .slice none 0 0, .slice none 0 0]) (cs := [.slice none 0 0, .slice none 0 0, .slice none 0 0]) Tryz.zeroValue32 rfl) ?_
  rintro _ _ ⟨b_2, rfl, rfl⟩
  refine JL.pure rfl (PO.assign (v := str []) rfl) ?_
  refine JL.nil ?_
  refine JQ.seq ?_
  refine JC.seq ?_
  refine JC.region ?_
  refine JL.ld rfl (LO.loadK 1 (vs := [.slice x.a0 m.s.length x.c0, .slice x.a1 m.r.length x.c1, .slice x.a2 m.w.length x.c2]) rfl rfl Tryz.isAgg32 Tryz.sizeOf32 rfl rfl) ?_
  refine JL.pure rfl (PO.move (v := .int .i64 id) rfl) ?_
  refine JL.op rfl (JO.call [2, 2, 2] Tryz.call111 rfl (M_sizeFile x m hk (by omega) (by omega) id (by omega)) rfl (fun _ _ => trivial)) ?_
  rintro _ _ ⟨_, ⟨x_5, m_6, n_7, e_3, k_4, f_8, rfl, rfl⟩, rfl⟩
  refine JL.pure rfl (PO.move (v := .tuple #[mv x_5 m_6, .int .i64 n_7]) rfl) ?_
  refine JL.pure rfl (PO.extract (v := mv x_5 m_6) rfl rfl) ?_
  refine JL.pure rfl (PO.extract (v := .int .i64 n_7) rfl rfl) ?_
  refine JL.op rfl (JO.store 4 (vs := [.slice x_5.a0 m_6.s.length x_5.c0, .slice x_5.a1 m_6.r.length x_5.c1, .slice x_5.a2 m_6.w.length x_5.c2]) (cs' := [.slice x_5.a0 m_6.s.length x_5.c0, .slice x_5.a1 m_6.r.length x_5.c1, .slice x_5.a2 m_6.w.length x_5.c2]) rfl rfl rfl rfl Tryz.sizeOf32 rfl rfl (Nat.le_of_ble_eq_true rfl) rfl) ?_
  rintro _ _ rfl
  refine JL.pure rfl (PO.assign (v := .int .i64 n_7) rfl) ?_
  refine JL.nil ?_
  refine JQ.seq ?_
  refine JC.seq ?_
  refine JC.seq ?_
  refine JC.region ?_
  refine JL.pure rfl (PO.move (v := .int .i64 at_) rfl) ?_
  refine JL.pure rfl (PO.lss rfl rfl) ?_
  refine JL.pure rfl (PO.move (v := .bool (decide (at_ < 0))) rfl) ?_
  by_cases h_9 : at_ < 0
  · skip
    refine JL.guardOff (b := true) rfl rfl rfl (congrArg Value.bool (decide_eq_true h_9)) ?_
    refine JL.guardOff (b := true) rfl rfl rfl (congrArg Value.bool (decide_eq_true h_9)) ?_
    refine JL.pure rfl (PO.pickT (v := .bool true) (congrArg Value.bool (decide_eq_true h_9)) rfl) ?_
    refine JL.pure rfl (PO.move (v := .bool true) rfl) ?_
    refine JL.guardOff (b := true) rfl rfl rfl (congrArg Value.bool rfl) ?_
    refine JL.guardOff (b := true) rfl rfl rfl (congrArg Value.bool rfl) ?_
    refine JL.guardOff (b := true) rfl rfl rfl (congrArg Value.bool rfl) ?_
    refine JL.pure rfl (PO.pickT (v := .bool true) (congrArg Value.bool rfl) rfl) ?_
    refine JL.nil ?_
    refine JQ.seq ?_
    refine JC.condT (congrArg Value.bool rfl) ?_
    refine JC.seq ?_
    refine JC.region ?_
    refine JL.ld rfl (LO.loadK 4 (vs := [.slice x_5.a0 m_6.s.length x_5.c0, .slice x_5.a1 m_6.r.length x_5.c1, .slice x_5.a2 m_6.w.length x_5.c2]) rfl rfl Tryz.isAgg32 Tryz.sizeOf32 rfl rfl) ?_
    refine JL.op rfl (JO.store 3 (vs := [.slice x_5.a0 m_6.s.length x_5.c0, .slice x_5.a1 m_6.r.length x_5.c1, .slice x_5.a2 m_6.w.length x_5.c2]) (cs' := [.slice x_5.a0 m_6.s.length x_5.c0, .slice x_5.a1 m_6.r.length x_5.c1, .slice x_5.a2 m_6.w.length x_5.c2]) rfl rfl rfl rfl Tryz.sizeOf32 rfl rfl (Nat.le_of_ble_eq_true rfl) rfl) ?_
    rintro _ _ rfl
    refine JL.pure rfl (PO.assign (v := str []) rfl) ?_
    refine JL.nil ?_
    refine JQ.seq ?_
    refine JC.ret ?_
    refine JQ.thenRet ?_
    refine Done.two (.inl rfl) rfl (RV.cell1 (LO.loadK 3 (vs := [.slice x_5.a0 m_6.s.length x_5.c0, .slice x_5.a1 m_6.r.length x_5.c1, .slice x_5.a2 m_6.w.length x_5.c2]) rfl rfl Tryz.isAgg32 Tryz.sizeOf32 rfl rfl) ⟨_, rfl⟩) (RV.tmp (v := str []) rfl) (List.sublist_append_left [rC x_5.a0 x_5.c0 m_6.s, rS x_5.a1 x_5.c1 m_6.r, rS x_5.a2 x_5.c2 m_6.w] [mb b_2 x_5 m_6, mb b_1 x_5 m_6]) ?_
    exact ⟨x_5, m_6, [], (by simp only [MS.readFile, Int.toNat_natCast, true_or, or_true, false_or, or_false, e_3, h_9, if_true, if_false, Bool.false_eq_true, Bool.not_true, Bool.not_false]; (repeat (first | rw [if_pos (by omega)] | rw [if_neg (by omega)])); all_goals (first | rfl | simp only [if_true, if_false, Bool.false_eq_true, Bool.not_true, Bool.not_false, e_3, h_9])), (k_4.mono (by omega) (by omega)), (by first | omega | (simp only [List.length_append, List.length_cons, List.length_nil, List.length_take, List.length_drop]; omega)), rfl, rfl⟩
  · skip
    obtain ⟨a, hat⟩ : ∃ a : Nat, at_ = ((a : Nat) : Int) := ⟨at_.toNat, by omega⟩
    refine JL.guardOn rfl rfl rfl (congrArg Value.bool (decide_eq_false h_9)) (JO.ofLO (LO.pure (PO.move (v := .int .i64 n) rfl))) ?_
    rintro _ _ ⟨rfl, rfl⟩
    refine JL.guardOn rfl rfl rfl (congrArg Value.bool (decide_eq_false h_9)) (JO.ofLO (LO.pure (PO.lss rfl rfl))) ?_
    rintro _ _ ⟨rfl, rfl⟩
    refine JL.pure rfl (PO.pickF (v := .bool (decide (n < 1))) (congrArg Value.bool (decide_eq_false h_9)) rfl) ?_
    refine JL.pure rfl (PO.move (v := .bool (decide (n < 1))) rfl) ?_
    by_cases h_10 : n < 1
    · skip
      refine JL.guardOff (b := true) rfl rfl rfl (congrArg Value.bool (decide_eq_true h_10)) ?_
      refine JL.guardOff (b := true) rfl rfl rfl (congrArg Value.bool (decide_eq_true h_10)) ?_
      refine JL.guardOff (b := true) rfl rfl rfl (congrArg Value.bool (decide_eq_true h_10)) ?_
      refine JL.pure rfl (PO.pickT (v := .bool true) (congrArg Value.bool (decide_eq_true h_10)) rfl) ?_
      refine JL.nil ?_
      refine JQ.seq ?_
      refine JC.condT (congrArg Value.bool rfl) ?_
      refine JC.seq ?_
      refine JC.region ?_
      refine JL.ld rfl (LO.loadK 4 (vs := [.slice x_5.a0 m_6.s.length x_5.c0, .slice x_5.a1 m_6.r.length x_5.c1, .slice x_5.a2 m_6.w.length x_5.c2]) rfl rfl Tryz.isAgg32 Tryz.sizeOf32 rfl rfl) ?_
      refine JL.op rfl (JO.store 3 (vs := [.slice x_5.a0 m_6.s.length x_5.c0, .slice x_5.a1 m_6.r.length x_5.c1, .slice x_5.a2 m_6.w.length x_5.c2]) (cs' := [.slice x_5.a0 m_6.s.length x_5.c0, .slice x_5.a1 m_6.r.length x_5.c1, .slice x_5.a2 m_6.w.length x_5.c2]) rfl rfl rfl rfl Tryz.sizeOf32 rfl rfl (Nat.le_of_ble_eq_true rfl) rfl) ?_
      rintro _ _ rfl
      refine JL.pure rfl (PO.assign (v := str []) rfl) ?_
      refine JL.nil ?_
      refine JQ.seq ?_
      refine JC.ret ?_
      refine JQ.thenRet ?_
      refine Done.two (.inl rfl) rfl (RV.cell1 (LO.loadK 3 (vs := [.slice x_5.a0 m_6.s.length x_5.c0, .slice x_5.a1 m_6.r.length x_5.c1, .slice x_5.a2 m_6.w.length x_5.c2]) rfl rfl Tryz.isAgg32 Tryz.sizeOf32 rfl rfl) ⟨_, rfl⟩) (RV.tmp (v := str []) rfl) (List.sublist_append_left [rC x_5.a0 x_5.c0 m_6.s, rS x_5.a1 x_5.c1 m_6.r, rS x_5.a2 x_5.c2 m_6.w] [mb b_2 x_5 m_6, mb b_1 x_5 m_6]) ?_
      exact ⟨x_5, m_6, [], (by simp only [MS.readFile, Int.toNat_natCast, true_or, or_true, false_or, or_false, e_3, h_9, hat, h_10, if_true, if_false, Bool.false_eq_true, Bool.not_true, Bool.not_false]; (repeat (first | rw [if_pos (by omega)] | rw [if_neg (by omega)])); all_goals (first | rfl | simp only [if_true, if_false, Bool.false_eq_true, Bool.not_true, Bool.not_false, e_3, h_9, hat, h_10])), (k_4.mono (by omega) (by omega)), (by first | omega | (simp only [List.length_append, List.length_cons, List.length_nil, List.length_take, List.length_drop]; omega)), rfl, rfl⟩
    · skip
      refine JL.guardOn rfl rfl rfl (congrArg Value.bool (decide_eq_false h_10)) (JO.ofLO (LO.pure (PO.move (v := .int .i64 ((a : Nat) : Int)) (congrArg (Value.int .i64) hat)))) ?_
      rintro _ _ ⟨rfl, rfl⟩
      refine JL.guardOn rfl rfl rfl (congrArg Value.bool (decide_eq_false h_10)) (JO.ofLO (LO.pure (PO.move (v := .int .i64 n_7) rfl))) ?_
      rintro _ _ ⟨rfl, rfl⟩
      refine JL.guardOn rfl rfl rfl (congrArg Value.bool (decide_eq_false h_10)) (JO.ofLO (LO.pure (PO.geq rfl rfl))) ?_
      rintro _ _ ⟨rfl, rfl⟩
      refine JL.pure rfl (PO.pickF (v := .bool (decide (n_7 ≤ ((a : Nat) : Int)))) (congrArg Value.bool (decide_eq_false h_10)) rfl) ?_
      refine JL.nil ?_
      refine JQ.seq ?_
      by_cases h_11 : n_7 ≤ ((a : Nat) : Int)
      · skip
        refine JC.condT (congrArg Value.bool (decide_eq_true h_11)) ?_
        refine JC.seq ?_
        refine JC.region ?_
        refine JL.ld rfl (LO.loadK 4 (vs := [.slice x_5.a0 m_6.s.length x_5.c0, .slice x_5.a1 m_6.r.length x_5.c1, .slice x_5.a2 m_6.w.length x_5.c2]) rfl rfl Tryz.isAgg32 Tryz.sizeOf32 rfl rfl) ?_
        refine JL.op rfl (JO.store 3 (vs := [.slice x_5.a0 m_6.s.length x_5.c0, .slice x_5.a1 m_6.r.length x_5.c1, .slice x_5.a2 m_6.w.length x_5.c2]) (cs' := [.slice x_5.a0 m_6.s.length x_5.c0, .slice x_5.a1 m_6.r.length x_5.c1, .slice x_5.a2 m_6.w.length x_5.c2]) rfl rfl rfl rfl Tryz.sizeOf32 rfl rfl (Nat.le_of_ble_eq_true rfl) rfl) ?_
        rintro _ _ rfl
        refine JL.pure rfl (PO.assign (v := str []) rfl) ?_
        refine JL.nil ?_
        refine JQ.seq ?_
        refine JC.ret ?_
        refine JQ.thenRet ?_
        refine Done.two (.inl rfl) rfl (RV.cell1 (LO.loadK 3 (vs := [.slice x_5.a0 m_6.s.length x_5.c0, .slice x_5.a1 m_6.r.length x_5.c1, .slice x_5.a2 m_6.w.length x_5.c2]) rfl rfl Tryz.isAgg32 Tryz.sizeOf32 rfl rfl) ⟨_, rfl⟩) (RV.tmp (v := str []) rfl) (List.sublist_append_left [rC x_5.a0 x_5.c0 m_6.s, rS x_5.a1 x_5.c1 m_6.r, rS x_5.a2 x_5.c2 m_6.w] [mb b_2 x_5 m_6, mb b_1 x_5 m_6]) ?_
        exact ⟨x_5, m_6, [], (by simp only [MS.readFile, Int.toNat_natCast, true_or, or_true, false_or, or_false, e_3, h_9, hat, h_10, h_11, if_true, if_false, Bool.false_eq_true, Bool.not_true, Bool.not_false]; (repeat (first | rw [if_pos (by omega)] | rw [if_neg (by omega)])); all_goals (first | rfl | simp only [if_true, if_false, Bool.false_eq_true, Bool.not_true, Bool.not_false, e_3, h_9, hat, h_10, h_11])), (k_4.mono (by omega) (by omega)), (by first | omega | (simp only [List.length_append, List.length_cons, List.length_nil, List.length_take, List.length_drop]; omega)), rfl, rfl⟩
      · skip
        refine JC.condF (congrArg Value.bool (decide_eq_false h_11)) ?_
        refine JC.skip ?_
        refine JQ.seq ?_
        refine JC.seq ?_
        refine JC.region ?_
        refine JL.pure rfl (PO.move (v := .int .i64 n_7) rfl) ?_
        refine JL.pure rfl (PO.assign (v := .int .i64 n_7) rfl) ?_
        refine JL.nil ?_
        refine JQ.seq ?_
        refine JC.seq ?_
        refine JC.cut (fun e_ L_ => ∃ E : Nat, (((a : Nat) : Int) + min n (n_7 - ((a : Nat) : Int)) = (E : Int)) ∧ (a < E ∧ E ≤ 999) ∧ e_ 1 = .int .i64 id ∧ e_ 2 = .int .i64 ((a : Nat) : Int) ∧ e_ 4 = .pointer (some ⟨b_1, 0, none⟩) ∧ e_ 8 = .pointer (some ⟨b_2, 0, none⟩) ∧ e_ 9 = str [] ∧ e_ 11 = .int .i64 ((E : Nat) : Int) ∧ L_ = [rC x_5.a0 x_5.c0 m_6.s, rS x_5.a1 x_5.c1 m_6.r, rS x_5.a2 x_5.c2 m_6.w, bk b_2 32 [.slice none 0 0, .slice none 0 0, .slice none 0 0], mb b_1 x_5 m_6]) ?_ ?_
        · skip
          refine JC.seq ?_
          refine JC.region ?_
          refine JL.pure rfl (PO.move (v := .int .i64 n) rfl) ?_
          refine JL.pure rfl (PO.move (v := .int .i64 n_7) rfl) ?_
          refine JL.pure rfl (PO.move (v := .int .i64 ((a : Nat) : Int)) (congrArg (Value.int .i64) hat)) ?_
          refine JL.pure rfl (PO.sub (c := n_7 - ((a : Nat) : Int)) rfl rfl (wr (by omega))) ?_
          refine JL.pure rfl (PO.lss rfl rfl) ?_
          refine JL.nil ?_
          refine JQ.seq ?_
          by_cases h_12 : n < (n_7 - ((a : Nat) : Int))
          · skip
            refine JC.condT (congrArg Value.bool (decide_eq_true h_12)) ?_
            refine JC.region ?_
            refine JL.pure rfl (PO.move (v := .int .i64 ((a : Nat) : Int)) (congrArg (Value.int .i64) hat)) ?_
            refine JL.pure rfl (PO.move (v := .int .i64 n) rfl) ?_
            refine JL.pure rfl (PO.add (c := ((a : Nat) : Int) + n) rfl rfl (wr (by omega))) ?_
            refine JL.pure rfl (PO.assign (v := .int .i64 (((a : Nat) : Int) + n)) rfl) ?_
            refine JL.nil ?_
            refine JQ.pick [0, 0, 0, 0, 0] (A := [rC x_5.a0 x_5.c0 m_6.s, rS x_5.a1 x_5.c1 m_6.r, rS x_5.a2 x_5.c2 m_6.w, bk b_2 32 [.slice none 0 0, .slice none 0 0, .slice none 0 0], mb b_1 x_5 m_6]) rfl ?_
            exact JQ.cut ⟨(((a : Nat) : Int) + n).toNat, (by omega), (by omega), rfl, (congrArg (Value.int .i64) hat), rfl, rfl, rfl, (congrArg (Value.int .i64) (Int.toNat_of_nonneg (by omega)).symm), rfl⟩
          · skip
            refine JC.condF (congrArg Value.bool (decide_eq_false h_12)) ?_
            refine JC.skip ?_
            refine JQ.pick [0, 0, 0, 0, 0] (A := [rC x_5.a0 x_5.c0 m_6.s, rS x_5.a1 x_5.c1 m_6.r, rS x_5.a2 x_5.c2 m_6.w, bk b_2 32 [.slice none 0 0, .slice none 0 0, .slice none 0 0], mb b_1 x_5 m_6]) rfl ?_
            exact JQ.cut ⟨(n_7).toNat, (by omega), (by omega), rfl, (congrArg (Value.int .i64) hat), rfl, rfl, rfl, (congrArg (Value.int .i64) (Int.toNat_of_nonneg (by omega)).symm), rfl⟩
        · skip
          rintro e_13 _ ⟨E, hE, hE3, he_14, he_15, he_16, he_17, he_18, he_19, rfl⟩
          refine JQ.seq ?_
          refine JC.seq ?_
          refine JC.region ?_
          refine JL.op rfl (JO.buildSlice (ps := []) (cur := #[]) Tryz.underlying100 Tryz.sizeOf5 Tryz.zeroValue5 rfl (by kernel_rfl) (by decide) (by decide)) ?_
          rintro _ _ ⟨a_20, rfl, rfl⟩
          refine JL.pure rfl (PO.assign (v := .slice a_20 0 0) rfl) ?_
          refine JL.nil ?_
          refine JQ.seq ?_
          refine JC.seq ?_
          refine JC.seq ?_
          refine JC.region ?_
          refine JL.pure rfl (PO.move (v := .int .i64 ((a : Nat) : Int)) he_15) ?_
          refine JL.pure rfl (PO.quoN (c := ((a / 8 : Nat) : Int)) rfl rfl (by omega) (by omega) (by omega) (wr (by omega))) ?_
          refine JL.pure rfl (PO.assign (v := .int .i64 ((a / 8 : Nat) : Int)) rfl) ?_
          refine JL.nil ?_
          refine JQ.seq ?_
          refine JC.block ?_
          refine JC.loop (fun k_ e_ L_ => ∃ p_ : Nat, ∃ x1 : MA, ∃ mm : MS, ∃ o_a : Option Addr, ∃ o_c : Nat, ∃ o_n : Nat, ∃ o_ : Str, (mm.ok (S) (T + 2 + p_)) ∧ (o_.length = o_n) ∧ (a / 8 ≤ p_ ∧ p_ ≤ 125) ∧ (o_.length + 8 * (a / 8) ≤ 8 * p_) ∧ (MS.readL id a E (130 - p_) p_ mm o_ = MS.readL id a E (130 - a / 8) (a / 8) m_6 []) ∧ e_ 1 = .int .i64 id ∧ e_ 2 = .int .i64 ((a : Nat) : Int) ∧ e_ 4 = .pointer (some ⟨b_1, 0, none⟩) ∧ e_ 8 = .pointer (some ⟨b_2, 0, none⟩) ∧ e_ 9 = str [] ∧ e_ 11 = .int .i64 ((E : Nat) : Int) ∧ e_ 12 = .slice o_a o_n o_c ∧ e_ 13 = .int .i64 ((p_ : Nat) : Int) ∧ L_ = [Res.row (.slice o_a o_n o_c) 5 1 o_n (o_.map encB), rC x1.a0 x1.c0 mm.s, rS x1.a1 x1.c1 mm.r, rS x1.a2 x1.c2 mm.w, bk b_2 32 [.slice none 0 0, .slice none 0 0, .slice none 0 0], mb b_1 x1 mm] ∧ k_ = 126 - p_) _ ⟨(a / 8), x_5, m_6, a_20, 0, 0, ([] : List UInt8), (k_4.mono (by omega) (by omega)), (by first | rfl | omega | (simp only [List.length_append, List.length_cons, List.length_nil, List.length_set]; omega)), (by omega), (by simp only [List.length_nil]; omega), rfl, he_14, he_15, he_16, he_17, he_18, he_19, rfl, rfl, rfl, rfl⟩ ?_
          rintro _ e_21 _ ⟨p_, x1, mm, o_a, o_c, o_n, o_, hkmm, ho_n, hp0, ho, hR, he_22, he_23, he_24, he_25, he_26, he_27, he_28, he_29, rfl, rfl⟩
          refine JC.seq ?_
          refine JC.seq ?_
          refine JC.region ?_
          refine JL.pure rfl (PO.move (v := .int .i64 ((p_ : Nat) : Int)) he_29) ?_
          refine JL.pure rfl (PO.mul (c := ((p_ * 8 : Nat) : Int)) rfl rfl (wr (by omega))) ?_
          refine JL.pure rfl (PO.move (v := .int .i64 ((E : Nat) : Int)) he_27) ?_
          refine JL.pure rfl (PO.lss rfl rfl) ?_
          refine JL.nil ?_
          refine JQ.seq ?_
          by_cases h_30 : ((p_ * 8 : Nat) : Int) < ((E : Nat) : Int)
          · skip
            refine JC.condT (congrArg Value.bool (decide_eq_true h_30)) ?_
            refine JC.skip ?_
            refine JQ.seq ?_
            refine JC.seq ?_
            refine JC.block ?_
            refine JC.seq ?_
            refine JC.region ?_
            refine JL.pure rfl (PO.assign (v := str []) rfl) ?_
            refine JL.nil ?_
            refine JQ.seq ?_
            refine JC.seq ?_
            refine JC.region ?_
            refine JL.ld rfl (LO.loadK 5 (vs := [.slice x1.a0 mm.s.length x1.c0, .slice x1.a1 mm.r.length x1.c1, .slice x1.a2 mm.w.length x1.c2]) rfl he_24 Tryz.isAgg32 Tryz.sizeOf32 rfl rfl) ?_
            refine JL.pure rfl (PO.move (v := .int .i64 id) he_22) ?_
            refine JL.pure rfl (PO.move (v := .int .i64 ((p_ : Nat) : Int)) he_29) ?_
            refine JL.op rfl (JO.call [1, 1, 1] Tryz.call112 rfl (M_block x1 mm hkmm (by omega) (by omega) id ((p_ : Nat) : Int) (by omega) (by omega)) rfl (fun _ _ => trivial)) ?_
            rintro _ _ ⟨_, ⟨x_33, m_34, u_35, e_31, k_32, f_36, rfl, rfl⟩, rfl⟩
            refine JL.pure rfl (PO.move (v := .tuple #[mv x_33 m_34, str u_35]) rfl) ?_
            refine JL.pure rfl (PO.extract (v := mv x_33 m_34) rfl rfl) ?_
            refine JL.pure rfl (PO.extract (v := str u_35) rfl rfl) ?_
            refine JL.op rfl (JO.store 5 (vs := [.slice x_33.a0 m_34.s.length x_33.c0, .slice x_33.a1 m_34.r.length x_33.c1, .slice x_33.a2 m_34.w.length x_33.c2]) (cs' := [.slice x_33.a0 m_34.s.length x_33.c0, .slice x_33.a1 m_34.r.length x_33.c1, .slice x_33.a2 m_34.w.length x_33.c2]) rfl he_24 rfl rfl Tryz.sizeOf32 rfl rfl (Nat.le_of_ble_eq_true rfl) rfl) ?_
            rintro _ _ rfl
            refine JL.pure rfl (PO.assign (v := str u_35) rfl) ?_
            refine JL.nil ?_
            refine JQ.seq ?_
            refine JC.seq ?_
            refine JC.region ?_
            refine JL.pure rfl (PO.assign (v := .int .i64 0) rfl) ?_
            refine JL.nil ?_
            refine JQ.seq ?_
            refine JC.block ?_
            refine JC.loop (fun k_ e_ L_ => ∃ i_ : Nat, ∃ q_a : Option Addr, ∃ q_c : Nat, ∃ q_n : Nat, ∃ q_ : Str, (q_.length = q_n) ∧ (i_ ≤ 8 ∧ i_ ≤ u_35.length) ∧ (q_ = o_ ++ piece u_35 (a - p_ * 8) (min (E - p_ * 8) i_)) ∧ (q_.length ≤ o_.length + i_) ∧ e_ 1 = .int .i64 id ∧ e_ 2 = .int .i64 ((a : Nat) : Int) ∧ e_ 4 = .pointer (some ⟨b_1, 0, none⟩) ∧ e_ 8 = .pointer (some ⟨b_2, 0, none⟩) ∧ e_ 9 = str [] ∧ e_ 11 = .int .i64 ((E : Nat) : Int) ∧ e_ 12 = .slice q_a q_n q_c ∧ e_ 13 = .int .i64 ((p_ : Nat) : Int) ∧ e_ 14 = str u_35 ∧ e_ 15 = .int .i64 ((i_ : Nat) : Int) ∧ L_ = [rC x_33.a0 x_33.c0 m_34.s, rS x_33.a1 x_33.c1 m_34.r, rS x_33.a2 x_33.c2 m_34.w, Res.row (.slice q_a q_n q_c) 5 1 q_n (q_.map encB), bk b_2 32 [.slice none 0 0, .slice none 0 0, .slice none 0 0], mb b_1 x_33 m_34] ∧ k_ = 8 - i_) _ ⟨0, o_a, o_c, o_n, o_, (by first | rfl | omega | (simp only [List.length_append, List.length_cons, List.length_nil, List.length_set]; omega)), (by omega), (by rw [piece_nil (by omega), List.append_nil]), (by omega), he_22, he_23, he_24, he_25, he_26, he_27, he_28, he_29, rfl, rfl, rfl, rfl⟩ ?_
            rintro _ e_37 _ ⟨i_, q_a, q_c, q_n, q_, hq_n, hi, hq, hql, he_38, he_39, he_40, he_41, he_42, he_43, he_44, he_45, he_46, he_47, rfl, rfl⟩
            refine JC.seq ?_
            refine JC.seq ?_
            refine JC.region ?_
            refine JL.pure rfl (PO.move (v := .int .i64 ((i_ : Nat) : Int)) he_47) ?_
            refine JL.pure rfl (PO.move (v := str u_35) he_46) ?_
            refine JL.pure rfl (PO.lenS Tryz.underlying9 rfl) ?_
            refine JL.pure rfl (PO.lss rfl rfl) ?_
            refine JL.pure rfl (PO.move (v := .bool (decide (((i_ : Nat) : Int) < (u_35.length : Int)))) rfl) ?_
            by_cases h_48 : ((i_ : Nat) : Int) < (u_35.length : Int)
            · skip
              refine JL.guardOn rfl rfl rfl (congrArg Value.bool (decide_eq_true h_48)) (JO.ofLO (LO.pure (PO.move (v := .int .i64 ((i_ : Nat) : Int)) he_47))) ?_
              rintro _ _ ⟨rfl, rfl⟩
              refine JL.guardOn rfl rfl rfl (congrArg Value.bool (decide_eq_true h_48)) (JO.ofLO (LO.pure (PO.lss rfl rfl))) ?_
              rintro _ _ ⟨rfl, rfl⟩
              refine JL.pure rfl (PO.pickT (v := .bool (decide (((i_ : Nat) : Int) < 8))) (congrArg Value.bool (decide_eq_true h_48)) rfl) ?_
              refine JL.nil ?_
              refine JQ.seq ?_
              by_cases h_49 : ((i_ : Nat) : Int) < 8
              · skip
                refine JC.condT (congrArg Value.bool (decide_eq_true h_49)) ?_
                refine JC.skip ?_
                refine JQ.seq ?_
                refine JC.seq ?_
                refine JC.block ?_
                refine JC.seq ?_
                refine JC.region ?_
                refine JL.pure rfl (PO.move (v := .int .i64 ((p_ : Nat) : Int)) he_45) ?_
                refine JL.pure rfl (PO.mul (c := ((p_ * 8 : Nat) : Int)) rfl rfl (wr (by omega))) ?_
                refine JL.pure rfl (PO.move (v := .int .i64 ((i_ : Nat) : Int)) he_47) ?_
                refine JL.pure rfl (PO.add (c := (((p_ * 8) + i_ : Nat) : Int)) rfl rfl (wr (by omega))) ?_
                refine JL.pure rfl (PO.assign (v := .int .i64 (((p_ * 8) + i_ : Nat) : Int)) rfl) ?_
                refine JL.nil ?_
                refine JQ.seq ?_
                refine JC.seq ?_
                refine JC.region ?_
                refine JL.pure rfl (PO.move (v := .int .i64 (((p_ * 8) + i_ : Nat) : Int)) rfl) ?_
                refine JL.pure rfl (PO.move (v := .int .i64 ((a : Nat) : Int)) he_39) ?_
                refine JL.pure rfl (PO.geq rfl rfl) ?_
                refine JL.pure rfl (PO.move (v := .bool (decide (((a : Nat) : Int) ≤ (((p_ * 8) + i_ : Nat) : Int)))) rfl) ?_
                by_cases h_50 : ((a : Nat) : Int) ≤ (((p_ * 8) + i_ : Nat) : Int)
                · skip
                  refine JL.guardOn rfl rfl rfl (congrArg Value.bool (decide_eq_true h_50)) (JO.ofLO (LO.pure (PO.move (v := .int .i64 (((p_ * 8) + i_ : Nat) : Int)) rfl))) ?_
                  rintro _ _ ⟨rfl, rfl⟩
                  refine JL.guardOn rfl rfl rfl (congrArg Value.bool (decide_eq_true h_50)) (JO.ofLO (LO.pure (PO.move (v := .int .i64 ((E : Nat) : Int)) he_43))) ?_
                  rintro _ _ ⟨rfl, rfl⟩
                  refine JL.guardOn rfl rfl rfl (congrArg Value.bool (decide_eq_true h_50)) (JO.ofLO (LO.pure (PO.lss rfl rfl))) ?_
                  rintro _ _ ⟨rfl, rfl⟩
                  refine JL.pure rfl (PO.pickT (v := .bool (decide ((((p_ * 8) + i_ : Nat) : Int) < ((E : Nat) : Int)))) (congrArg Value.bool (decide_eq_true h_50)) rfl) ?_
                  refine JL.nil ?_
                  refine JQ.seq ?_
                  by_cases h_51 : (((p_ * 8) + i_ : Nat) : Int) < ((E : Nat) : Int)
                  · skip
                    refine JC.condT (congrArg Value.bool (decide_eq_true h_51)) ?_
                    refine JC.region ?_
                    refine JL.pure rfl (PO.move (v := .slice q_a q_n q_c) he_44) ?_
                    refine JL.pure rfl (PO.move (v := str u_35) he_46) ?_
                    refine JL.pure rfl (PO.move (v := .int .i64 ((i_ : Nat) : Int)) he_47) ?_
                    refine JL.pure rfl (PO.indexS (i := i_) (c := u_35.getD i_ 0) Tryz.underlying9 rfl rfl (getD_some (by omega))) ?_
                    have hu_52 := UInt8.toNat_lt (u_35.getD i_ 0)
                    refine JL.op rfl (JO.buildSlice (ps := [(0, .int .u8 ((u_35.getD i_ 0).toNat : Int))]) (cur := #[.int .u8 ((u_35.getD i_ 0).toNat : Int)]) Tryz.underlying100 Tryz.sizeOf5 Tryz.zeroValue5 rfl (by kernel_rfl) (by decide) (by decide)) ?_
                    rintro _ _ ⟨a_53, rfl, rfl⟩
                    refine JL.op rfl (JO.append' 4 (q := 1) (news := ([u_35.getD i_ 0] : List UInt8).map encB) (n' := (q_ ++ ([u_35.getD i_ 0] : List UInt8)).length) (cs' := (q_ ++ ([u_35.getD i_ 0] : List UInt8)).map encB) rfl Tryz.underlying100 Tryz.underlying100 Tryz.typeInfo5 rfl (by' := 1) rfl rfl rfl rfl rfl (fun w hw => Src.sees (hw.see (i := 0) rfl) (oneB _)) (by (try simp only [List.length_append, List.length_cons, List.length_nil, List.length_take, List.length_drop]); omega) (by (try simp only [List.length_append, List.length_cons, List.length_nil, List.length_take, List.length_drop]); omega) (by simp only [List.length_append, List.length_take, List.length_drop, List.length_cons, List.length_nil] <;> first | rfl | omega) (by simp only [List.map_append])) ?_
                    rintro _ _ ⟨a_54, c_55, rfl, rfl⟩
                    refine JL.pure rfl (PO.assign (v := .slice a_54 ((q_ ++ ([u_35.getD i_ 0] : List UInt8)).length) c_55) rfl) ?_
                    refine JL.nil ?_
                    refine JQ.blockN ?_
                    refine JQ.seq ?_
                    refine JC.region ?_
                    refine JL.pure rfl (PO.move (v := .int .i64 ((i_ : Nat) : Int)) he_47) ?_
                    refine JL.pure rfl (PO.add (c := ((i_ + 1 : Nat) : Int)) rfl rfl (wr (by omega))) ?_
                    refine JL.pure rfl (PO.assign (v := .int .i64 ((i_ + 1 : Nat) : Int)) rfl) ?_
                    refine JL.nil ?_
                    refine JQ.pick [1, 1, 1, 1, 1, 1] (A := [rC x_33.a0 x_33.c0 m_34.s, rS x_33.a1 x_33.c1 m_34.r, rS x_33.a2 x_33.c2 m_34.w, Res.row (.slice a_54 ((q_ ++ ([u_35.getD i_ 0] : List UInt8)).length) c_55) 5 1 ((q_ ++ ([u_35.getD i_ 0] : List UInt8)).length) ((q_ ++ ([u_35.getD i_ 0] : List UInt8)).map encB), bk b_2 32 [.slice none 0 0, .slice none 0 0, .slice none 0 0], mb b_1 x_33 m_34]) rfl ?_
                    refine JQ.again (8 - (i_ + 1)) (by omega) ⟨(i_ + 1), a_54, c_55, ((q_ ++ ([u_35.getD i_ 0] : List UInt8)).length), (q_ ++ ([u_35.getD i_ 0] : List UInt8)), (by first | rfl | omega | (simp only [List.length_append, List.length_cons, List.length_nil, List.length_set]; omega)), (by omega), (by rw [hq, List.append_assoc, piece_yes (by omega) (by omega) (by omega)]), (by first | omega | (simp only [List.length_append, List.length_cons, List.length_nil]; omega)), he_38, he_39, he_40, he_41, he_42, he_43, rfl, he_45, he_46, rfl, rfl, rfl⟩
                  · skip
                    refine JC.condF (congrArg Value.bool (decide_eq_false h_51)) ?_
                    refine JC.skip ?_
                    refine JQ.blockN ?_
                    refine JQ.seq ?_
                    refine JC.region ?_
                    refine JL.pure rfl (PO.move (v := .int .i64 ((i_ : Nat) : Int)) he_47) ?_
                    refine JL.pure rfl (PO.add (c := ((i_ + 1 : Nat) : Int)) rfl rfl (wr (by omega))) ?_
                    refine JL.pure rfl (PO.assign (v := .int .i64 ((i_ + 1 : Nat) : Int)) rfl) ?_
                    refine JL.nil ?_
                    refine JQ.pick [0, 0, 0, 0, 0, 0] (A := [rC x_33.a0 x_33.c0 m_34.s, rS x_33.a1 x_33.c1 m_34.r, rS x_33.a2 x_33.c2 m_34.w, Res.row (.slice q_a q_n q_c) 5 1 q_n (q_.map encB), bk b_2 32 [.slice none 0 0, .slice none 0 0, .slice none 0 0], mb b_1 x_33 m_34]) rfl ?_
                    refine JQ.again (8 - (i_ + 1)) (by omega) ⟨(i_ + 1), q_a, q_c, q_n, q_, (by first | rfl | omega | (simp only [List.length_append, List.length_cons, List.length_nil, List.length_set]; omega)), (by omega), (by rw [hq, piece_no (by omega)]), (by first | omega | (simp only [List.length_append, List.length_cons, List.length_nil]; omega)), he_38, he_39, he_40, he_41, he_42, he_43, he_44, he_45, he_46, rfl, rfl, rfl⟩
                · skip
                  refine JL.guardOff (b := false) rfl rfl rfl (congrArg Value.bool (decide_eq_false h_50)) ?_
                  refine JL.guardOff (b := false) rfl rfl rfl (congrArg Value.bool (decide_eq_false h_50)) ?_
                  refine JL.guardOff (b := false) rfl rfl rfl (congrArg Value.bool (decide_eq_false h_50)) ?_
                  refine JL.pure rfl (PO.pickF (v := .bool false) (congrArg Value.bool (decide_eq_false h_50)) rfl) ?_
                  refine JL.nil ?_
                  refine JQ.seq ?_
                  refine JC.condF (congrArg Value.bool rfl) ?_
                  refine JC.skip ?_
                  refine JQ.blockN ?_
                  refine JQ.seq ?_
                  refine JC.region ?_
                  refine JL.pure rfl (PO.move (v := .int .i64 ((i_ : Nat) : Int)) he_47) ?_
                  refine JL.pure rfl (PO.add (c := ((i_ + 1 : Nat) : Int)) rfl rfl (wr (by omega))) ?_
                  refine JL.pure rfl (PO.assign (v := .int .i64 ((i_ + 1 : Nat) : Int)) rfl) ?_
                  refine JL.nil ?_
                  refine JQ.pick [0, 0, 0, 0, 0, 0] (A := [rC x_33.a0 x_33.c0 m_34.s, rS x_33.a1 x_33.c1 m_34.r, rS x_33.a2 x_33.c2 m_34.w, Res.row (.slice q_a q_n q_c) 5 1 q_n (q_.map encB), bk b_2 32 [.slice none 0 0, .slice none 0 0, .slice none 0 0], mb b_1 x_33 m_34]) rfl ?_
                  refine JQ.again (8 - (i_ + 1)) (by omega) ⟨(i_ + 1), q_a, q_c, q_n, q_, (by first | rfl | omega | (simp only [List.length_append, List.length_cons, List.length_nil, List.length_set]; omega)), (by omega), (by rw [hq, piece_no (by omega)]), (by first | omega | (simp only [List.length_append, List.length_cons, List.length_nil]; omega)), he_38, he_39, he_40, he_41, he_42, he_43, he_44, he_45, he_46, rfl, rfl, rfl⟩
              · skip
                have ho2 : q_ = o_ ++ piece u_35 (a - p_ * 8) (min (min (E - p_ * 8) 8) u_35.length) := by rw [hq, show min (E - p_ * 8) i_ = min (min (E - p_ * 8) 8) u_35.length by omega]
                refine JC.condF (congrArg Value.bool (decide_eq_false h_49)) ?_
                refine JC.exit ?_
                refine JQ.thenExit ?_
                refine JQ.thenExit ?_
                refine JQ.blockE ?_
                refine JQ.blockN ?_
                refine JQ.seq ?_
                refine JC.region ?_
                refine JL.pure rfl (PO.move (v := .int .i64 ((p_ : Nat) : Int)) he_45) ?_
                refine JL.pure rfl (PO.add (c := ((p_ + 1 : Nat) : Int)) rfl rfl (wr (by omega))) ?_
                refine JL.pure rfl (PO.assign (v := .int .i64 ((p_ + 1 : Nat) : Int)) rfl) ?_
                refine JL.nil ?_
                refine JQ.pick [3, 0, 0, 0, 0, 0] (A := [Res.row (.slice q_a q_n q_c) 5 1 q_n (q_.map encB), rC x_33.a0 x_33.c0 m_34.s, rS x_33.a1 x_33.c1 m_34.r, rS x_33.a2 x_33.c2 m_34.w, bk b_2 32 [.slice none 0 0, .slice none 0 0, .slice none 0 0], mb b_1 x_33 m_34]) rfl ?_
                refine JQ.again (126 - (p_ + 1)) (by omega) ⟨(p_ + 1), x_33, m_34, q_a, q_c, q_n, q_, (k_32.mono (by omega) (by omega)), (by first | rfl | omega | (simp only [List.length_append, List.length_cons, List.length_nil, List.length_set]; omega)), (by omega), (by omega), (by rw [show 130 - p_ = (130 - (p_ + 1)) + 1 by omega, MS.readL, if_pos (by omega)] at hR; simp only [e_3, e_31] at hR; rw [← ho2] at hR; exact hR), he_38, he_39, he_40, he_41, he_42, he_43, he_44, rfl, rfl, rfl⟩
            · skip
              have ho2 : q_ = o_ ++ piece u_35 (a - p_ * 8) (min (min (E - p_ * 8) 8) u_35.length) := by rw [hq, show min (E - p_ * 8) i_ = min (min (E - p_ * 8) 8) u_35.length by omega]
              refine JL.guardOff (b := false) rfl rfl rfl (congrArg Value.bool (decide_eq_false h_48)) ?_
              refine JL.guardOff (b := false) rfl rfl rfl (congrArg Value.bool (decide_eq_false h_48)) ?_
              refine JL.pure rfl (PO.pickF (v := .bool false) (congrArg Value.bool (decide_eq_false h_48)) rfl) ?_
              refine JL.nil ?_
              refine JQ.seq ?_
              refine JC.condF (congrArg Value.bool rfl) ?_
              refine JC.exit ?_
              refine JQ.thenExit ?_
              refine JQ.thenExit ?_
              refine JQ.blockE ?_
              refine JQ.blockN ?_
              refine JQ.seq ?_
              refine JC.region ?_
              refine JL.pure rfl (PO.move (v := .int .i64 ((p_ : Nat) : Int)) he_45) ?_
              refine JL.pure rfl (PO.add (c := ((p_ + 1 : Nat) : Int)) rfl rfl (wr (by omega))) ?_
              refine JL.pure rfl (PO.assign (v := .int .i64 ((p_ + 1 : Nat) : Int)) rfl) ?_
              refine JL.nil ?_
              refine JQ.pick [3, 0, 0, 0, 0, 0] (A := [Res.row (.slice q_a q_n q_c) 5 1 q_n (q_.map encB), rC x_33.a0 x_33.c0 m_34.s, rS x_33.a1 x_33.c1 m_34.r, rS x_33.a2 x_33.c2 m_34.w, bk b_2 32 [.slice none 0 0, .slice none 0 0, .slice none 0 0], mb b_1 x_33 m_34]) rfl ?_
              refine JQ.again (126 - (p_ + 1)) (by omega) ⟨(p_ + 1), x_33, m_34, q_a, q_c, q_n, q_, (k_32.mono (by omega) (by omega)), (by first | rfl | omega | (simp only [List.length_append, List.length_cons, List.length_nil, List.length_set]; omega)), (by omega), (by omega), (by rw [show 130 - p_ = (130 - (p_ + 1)) + 1 by omega, MS.readL, if_pos (by omega)] at hR; simp only [e_3, e_31] at hR; rw [← ho2] at hR; exact hR), he_38, he_39, he_40, he_41, he_42, he_43, he_44, rfl, rfl, rfl⟩
          · skip
            rw [MS.readL_stop (by omega)] at hR
            have hRE := hR.symm
            refine JC.condF (congrArg Value.bool (decide_eq_false h_30)) ?_
            refine JC.exit ?_
            refine JQ.thenExit ?_
            refine JQ.thenExit ?_
            refine JQ.blockE ?_
            refine JQ.seq ?_
            refine JC.seq ?_
            refine JC.regionA [mb b_1 x1 mm] 4 mixed (by simp) ?_
            refine JA.take 0 rfl (by kernel_rfl) (NP.th NP.body) (by kernel_rfl) (by kernel_rfl) (by kernel_rfl) rfl (LO.loadK 0 (vs := [.slice x1.a0 mm.s.length x1.c0, .slice x1.a1 mm.r.length x1.c1, .slice x1.a2 mm.w.length x1.c2]) rfl he_24 Tryz.isAgg32 Tryz.sizeOf32 rfl rfl) ?_
            refine JA.takeP 1 rfl (by kernel_rfl) (NP.th NP.body) (by kernel_rfl) (by kernel_rfl) rfl (PO.move (v := .slice o_a o_n o_c) he_28) ?_
            refine JA.two (i := 2) (j := 3) (by kernel_rfl) ?_ ?_
            · skip
              refine JX.op rfl rfl (JO.ofLO (LO.toStr 0 o_ rfl Tryz.underlying100 Tryz.underlying5 Tryz.underlying9 rfl rfl)) ?_
              rintro _ _ ⟨rfl, rfl⟩
              refine ⟨(by simp), ?_⟩
              refine JA.one (i := 3) (by kernel_rfl) ?_
              refine JX.op rfl rfl (JO.store 4 (vs := [.slice x1.a0 mm.s.length x1.c0, .slice x1.a1 mm.r.length x1.c1, .slice x1.a2 mm.w.length x1.c2]) (cs' := [.slice x1.a0 mm.s.length x1.c0, .slice x1.a1 mm.r.length x1.c1, .slice x1.a2 mm.w.length x1.c2]) rfl he_25 rfl rfl Tryz.sizeOf32 rfl rfl (Nat.le_of_ble_eq_true rfl) rfl) ?_
              rintro _ _ rfl
              refine ⟨(by simp), ?_⟩
              refine JA.takeP 4 rfl (by kernel_rfl) (NP.th NP.body) (by kernel_rfl) (by kernel_rfl) rfl (PO.assign (v := str o_) rfl) ?_
              refine JA.done (by kernel_rfl) ?_
              refine JQ.seq ?_
              refine JC.ret ?_
              refine JQ.perm (pick_perm [1, 1, 1] (A := [rC x1.a0 x1.c0 mm.s, rS x1.a1 x1.c1 mm.r, rS x1.a2 x1.c2 mm.w]) (F := [Res.row (.slice o_a o_n o_c) 5 1 o_n (o_.map encB), mb b_2 x1 mm, mb b_1 x1 mm]) rfl).symm ?_
              refine Done.two (.inl rfl) rfl (RV.cell1 (LO.loadK 4 (vs := [.slice x1.a0 mm.s.length x1.c0, .slice x1.a1 mm.r.length x1.c1, .slice x1.a2 mm.w.length x1.c2]) rfl he_25 Tryz.isAgg32 Tryz.sizeOf32 rfl rfl) ⟨_, he_25⟩) (RV.tmp (v := str o_) rfl) (List.sublist_append_left [rC x1.a0 x1.c0 mm.s, rS x1.a1 x1.c1 mm.r, rS x1.a2 x1.c2 mm.w] [Res.row (.slice o_a o_n o_c) 5 1 o_n (o_.map encB), mb b_2 x1 mm, mb b_1 x1 mm]) ?_
              exact ⟨x1, mm, o_, (by simp only [MS.readFile, Int.toNat_natCast, true_or, or_true, false_or, or_false, e_3, h_9, hat, h_10, h_11, hE, h_30, hRE, if_true, if_false, Bool.false_eq_true, Bool.not_true, Bool.not_false]; (repeat (first | rw [if_pos (by omega)] | rw [if_neg (by omega)])); all_goals (first | rfl | simp only [if_true, if_false, Bool.false_eq_true, Bool.not_true, Bool.not_false, e_3, h_9, hat, h_10, h_11, hE, h_30, hRE])), (hkmm.mono (by omega) (by omega)), (by first | omega | (simp only [List.length_append, List.length_cons, List.length_nil, List.length_take, List.length_drop]; omega)), rfl, rfl⟩
            · skip
              refine JX.op rfl rfl (JO.store 4 (vs := [.slice x1.a0 mm.s.length x1.c0, .slice x1.a1 mm.r.length x1.c1, .slice x1.a2 mm.w.length x1.c2]) (cs' := [.slice x1.a0 mm.s.length x1.c0, .slice x1.a1 mm.r.length x1.c1, .slice x1.a2 mm.w.length x1.c2]) rfl he_25 rfl rfl Tryz.sizeOf32 rfl rfl (Nat.le_of_ble_eq_true rfl) rfl) ?_
              rintro _ _ rfl
              refine ⟨(by simp), ?_⟩
              refine JA.one (i := 2) (by kernel_rfl) ?_
              refine JX.op rfl rfl (JO.ofLO (LO.toStr 0 o_ rfl Tryz.underlying100 Tryz.underlying5 Tryz.underlying9 rfl rfl)) ?_
              rintro _ _ ⟨rfl, rfl⟩
              refine ⟨(by simp), ?_⟩
              refine JA.takeP 4 rfl (by kernel_rfl) (NP.th NP.body) (by kernel_rfl) (by kernel_rfl) rfl (PO.assign (v := str o_) rfl) ?_
              refine JA.done (by kernel_rfl) ?_
              refine JQ.seq ?_
              refine JC.ret ?_
              refine JQ.perm (pick_perm [1, 1, 1] (A := [rC x1.a0 x1.c0 mm.s, rS x1.a1 x1.c1 mm.r, rS x1.a2 x1.c2 mm.w]) (F := [Res.row (.slice o_a o_n o_c) 5 1 o_n (o_.map encB), mb b_2 x1 mm, mb b_1 x1 mm]) rfl).symm ?_
              refine Done.two (.inl rfl) rfl (RV.cell1 (LO.loadK 4 (vs := [.slice x1.a0 mm.s.length x1.c0, .slice x1.a1 mm.r.length x1.c1, .slice x1.a2 mm.w.length x1.c2]) rfl he_25 Tryz.isAgg32 Tryz.sizeOf32 rfl rfl) ⟨_, he_25⟩) (RV.tmp (v := str o_) rfl) (List.sublist_append_left [rC x1.a0 x1.c0 mm.s, rS x1.a1 x1.c1 mm.r, rS x1.a2 x1.c2 mm.w] [Res.row (.slice o_a o_n o_c) 5 1 o_n (o_.map encB), mb b_2 x1 mm, mb b_1 x1 mm]) ?_
              exact ⟨x1, mm, o_, (by simp only [MS.readFile, Int.toNat_natCast, true_or, or_true, false_or, or_false, e_3, h_9, hat, h_10, h_11, hE, h_30, hRE, if_true, if_false, Bool.false_eq_true, Bool.not_true, Bool.not_false]; (repeat (first | rw [if_pos (by omega)] | rw [if_neg (by omega)])); all_goals (first | rfl | simp only [if_true, if_false, Bool.false_eq_true, Bool.not_true, Bool.not_false, e_3, h_9, hat, h_10, h_11, hE, h_30, hRE])), (hkmm.mono (by omega) (by omega)), (by first | omega | (simp only [List.length_append, List.length_cons, List.length_nil, List.length_take, List.length_drop]; omega)), rfl, rfl⟩

theorem P_readFile (x : MA) (m : MS) {S T : Nat} (hk : m.ok S T) (hS : S ≤ 49000000) (hT : T ≤ 49000000) (id : Int) (at_ : Int) (n : Int) (hid : -9223372036854775808 ≤ id ∧ id ≤ 9223372036854775807) (hat_ : -9223372036854775808 ≤ at_ ∧ at_ ≤ 9223372036854775807) (hn : -9223372036854775808 ≤ n ∧ n ≤ 9223372036854775807) :
    Ct Tryz.prog 29 [mv x m, .int .i64 id, .int .i64 at_, .int .i64 n] ([]) (fun w => seesM w x m ∧ HexOk w) (fun v A' => ∃ x' m' r0, MS.readFile m id at_ n = (m', r0) ∧ m'.ok (S) (T + 130) ∧ r0.length ≤ 1016 ∧ v = .tuple #[mv x' m', str r0] ∧ A' = mr x' m') := by
  refine Ct.introL Tryz.func29 rfl Tryz.ntmps29 (Nat.le_of_ble_eq_true rfl) fun w0 hpre hlow => ?_
  have hs_x_a0 : Sees w0 _ _ _ _ := hpre.1.1
  have hs_x_a1 : Sees w0 _ _ _ _ := hpre.1.2.1
  have hs_x_a2 : Sees w0 _ _ _ _ := hpre.1.2.2
  refine JC.seq ?_
  refine JC.region ?_
  refine JL.op rfl (JO.box (cs := [.slice x.a0 m.s.length x.c0, .slice x.a1 m.r.length x.c1, .slice x.a2 m.w.length x.c2]) rfl rfl) ?_
  rintro _ _ ⟨b_1, rfl, rfl⟩
  refine JL.op rfl (JO.alloc (z := .agg #[.slice none 0 0, .slice none 0 0, .slice none 0 0]) (cs := [.slice none 0 0, .slice none 0 0, .slice none 0 0]) Tryz.zeroValue32 rfl) ?_
  rintro _ _ ⟨b_2, rfl, rfl⟩
  refine JL.pure rfl (PO.assign (v := str []) rfl) ?_
  refine JL.nil ?_
  refine JQ.seq ?_
  refine JC.seq ?_
  refine JC.region ?_
  refine JL.ld rfl (LO.loadK 1 (vs := [.slice x.a0 m.s.length x.c0, .slice x.a1 m.r.length x.c1, .slice x.a2 m.w.length x.c2]) rfl rfl Tryz.isAgg32 Tryz.sizeOf32 rfl rfl) ?_
  refine JL.op rfl (JO.call [] Tryz.call50 rfl (N_clone x m hk (by omega) (by omega)) rfl (fun w hw => ⟨hw.seeOut_ hs_x_a0 (fun _ _ => List.not_mem_nil), hw.seeOut_ hs_x_a1 (fun _ _ => List.not_mem_nil), hw.seeOut_ hs_x_a2 (fun _ _ => List.not_mem_nil)⟩)) ?_
  rintro _ _ ⟨_, ⟨x_5, m_6, rfl, k_4, rfl, rfl⟩, rfl⟩
  refine JL.op rfl (JO.store 4 (vs := [.slice x_5.a0 m.s.length x_5.c0, .slice x_5.a1 m.r.length x_5.c1, .slice x_5.a2 m.w.length x_5.c2]) (cs' := [.slice x_5.a0 m.s.length x_5.c0, .slice x_5.a1 m.r.length x_5.c1, .slice x_5.a2 m.w.length x_5.c2]) rfl rfl rfl rfl Tryz.sizeOf32 rfl rfl (Nat.le_of_ble_eq_true rfl) rfl) ?_
  rintro _ _ rfl
  refine JL.nil ?_
  refine JQ.seq ?_
  refine JC.seq ?_
  refine JC.region ?_
  refine JL.pure rfl (PO.move (v := .int .i64 id) rfl) ?_
  refine JL.pure rfl (PO.move (v := .int .i64 at_) rfl) ?_
  refine JL.pure rfl (PO.move (v := .int .i64 n) rfl) ?_
  refine JL.op rfl (JO.call [4, 0, 0, 0] Tryz.call65 rfl (N_readFile b_1 x_5 m k_4 (by omega) (by omega) id at_ n (by omega) (by omega) (by omega)) rfl (fun w hw => hw.hex hlow hpre.2)) ?_
  rintro _ _ ⟨_, ⟨x_9, m_10, u_11, e_7, k_8, f_12, rfl, rfl⟩, rfl⟩
  refine JL.pure rfl (PO.assign (v := str u_11) rfl) ?_
  refine JL.nil ?_
  refine JQ.seq ?_
  refine JC.seq ?_
  refine JC.region ?_
  refine JL.ld rfl (LO.loadK 0 (vs := [.slice x_9.a0 m_10.s.length x_9.c0, .slice x_9.a1 m_10.r.length x_9.c1, .slice x_9.a2 m_10.w.length x_9.c2]) rfl rfl Tryz.isAgg32 Tryz.sizeOf32 rfl rfl) ?_
  refine JL.pure rfl (PO.move (v := str u_11) rfl) ?_
  refine JL.op rfl (JO.store 4 (vs := [.slice x_9.a0 m_10.s.length x_9.c0, .slice x_9.a1 m_10.r.length x_9.c1, .slice x_9.a2 m_10.w.length x_9.c2]) (cs' := [.slice x_9.a0 m_10.s.length x_9.c0, .slice x_9.a1 m_10.r.length x_9.c1, .slice x_9.a2 m_10.w.length x_9.c2]) rfl rfl rfl rfl Tryz.sizeOf32 rfl rfl (Nat.le_of_ble_eq_true rfl) rfl) ?_
  rintro _ _ rfl
  refine JL.pure rfl (PO.assign (v := str u_11) rfl) ?_
  refine JL.nil ?_
  refine JQ.seq ?_
  refine JC.ret ?_
  refine JQ.perm (pick_perm [1, 1, 1] (A := [rC x_9.a0 x_9.c0 m_10.s, rS x_9.a1 x_9.c1 m_10.r, rS x_9.a2 x_9.c2 m_10.w]) (F := [mb b_1 x_9 m_10, mb b_2 x_9 m_10]) rfl).symm ?_
  refine Done.two (.inl rfl) rfl (RV.cell1 (LO.loadK 4 (vs := [.slice x_9.a0 m_10.s.length x_9.c0, .slice x_9.a1 m_10.r.length x_9.c1, .slice x_9.a2 m_10.w.length x_9.c2]) rfl rfl Tryz.isAgg32 Tryz.sizeOf32 rfl rfl) ⟨_, rfl⟩) (RV.tmp (v := str u_11) rfl) (List.sublist_append_left [rC x_9.a0 x_9.c0 m_10.s, rS x_9.a1 x_9.c1 m_10.r, rS x_9.a2 x_9.c2 m_10.w] [mb b_1 x_9 m_10, mb b_2 x_9 m_10]) ?_
  exact ⟨x_9, m_10, u_11, (by simp only [if_true, e_7, if_true, if_false, Bool.false_eq_true, Bool.not_true, Bool.not_false]; (repeat (first | rw [if_pos (by omega)] | rw [if_neg (by omega)])); all_goals (first | rfl | simp only [if_true, if_false, Bool.false_eq_true, Bool.not_true, Bool.not_false, e_7])), (k_8.mono (by omega) (by omega)), (by first | omega | (simp only [List.length_append, List.length_cons, List.length_nil, List.length_take, List.length_drop]; omega)), rfl, rfl⟩

theorem Q_readFile (x : MA) (m : MS) {S T : Nat} (hk : m.ok S T) (hS : S ≤ 49000000) (hT : T ≤ 49000000) (id : Int) (at_ : Int) (n : Int) (hid : -9223372036854775808 ≤ id ∧ id ≤ 9223372036854775807) (hat_ : -9223372036854775808 ≤ at_ ∧ at_ ≤ 9223372036854775807) (hn : -9223372036854775808 ≤ n ∧ n ≤ 9223372036854775807) :
    Ct Tryz.prog 28 [mv x m, .int .i64 id, .int .i64 at_, .int .i64 n] ([]) (fun w => seesM w x m) (fun v A' => ∃ x' m' r0, MS.readFile m id at_ n = (m', r0) ∧ m'.ok (S) (T + 130) ∧ r0.length ≤ 1016 ∧ v = .tuple #[mv x' m', str r0] ∧ A' = mr x' m') := by
  refine Ct.intro Tryz.func28 rfl Tryz.ntmps28 (Nat.le_of_ble_eq_true rfl) fun w0 hpre => ?_
  have hs_x_a0 : Sees w0 _ _ _ _ := hpre.1
  have hs_x_a1 : Sees w0 _ _ _ _ := hpre.2.1
  have hs_x_a2 : Sees w0 _ _ _ _ := hpre.2.2
  refine JC.seq ?_
  refine JC.region ?_
  refine JL.op rfl (JO.box (cs := [.slice x.a0 m.s.length x.c0, .slice x.a1 m.r.length x.c1, .slice x.a2 m.w.length x.c2]) rfl rfl) ?_
  rintro _ _ ⟨b_1, rfl, rfl⟩
  refine JL.op rfl (JO.alloc (z := .agg #[.slice none 0 0, .slice none 0 0, .slice none 0 0]) (cs := [.slice none 0 0, .slice none 0 0, .slice none 0 0]) Tryz.zeroValue32 rfl) ?_
  rintro _ _ ⟨b_2, rfl, rfl⟩
  refine JL.pure rfl (PO.assign (v := str []) rfl) ?_
  refine JL.nil ?_
  refine JQ.seq ?_
  refine JC.seq ?_
  refine JC.region ?_
  refine JL.ld rfl (LO.loadK 1 (vs := [.slice x.a0 m.s.length x.c0, .slice x.a1 m.r.length x.c1, .slice x.a2 m.w.length x.c2]) rfl rfl Tryz.isAgg32 Tryz.sizeOf32 rfl rfl) ?_
  refine JL.op rfl (JO.call [] Tryz.call47 rfl (N_copy x m hk (by omega) (by omega)) rfl (fun w hw => ⟨hw.seeOut_ hs_x_a0 (fun _ _ => List.not_mem_nil), hw.seeOut_ hs_x_a1 (fun _ _ => List.not_mem_nil), hw.seeOut_ hs_x_a2 (fun _ _ => List.not_mem_nil)⟩)) ?_
  rintro _ _ ⟨_, ⟨x_5, m_6, rfl, k_4, rfl, rfl⟩, rfl⟩
  refine JL.pure rfl (PO.move (v := .int .i64 id) rfl) ?_
  refine JL.pure rfl (PO.move (v := .int .i64 at_) rfl) ?_
  refine JL.pure rfl (PO.move (v := .int .i64 n) rfl) ?_
  refine JL.op rfl (JO.call [0, 0, 0] Tryz.call64 rfl (M_readFile x_5 m k_4 (by omega) (by omega) id at_ n (by omega) (by omega) (by omega)) rfl (fun _ _ => trivial)) ?_
  rintro _ _ ⟨_, ⟨x_9, m_10, u_11, e_7, k_8, f_12, rfl, rfl⟩, rfl⟩
  refine JL.pure rfl (PO.extract (v := mv x_9 m_10) rfl rfl) ?_
  refine JL.pure rfl (PO.extract (v := str u_11) rfl rfl) ?_
  refine JL.op rfl (JO.store 3 (vs := [.slice x_9.a0 m_10.s.length x_9.c0, .slice x_9.a1 m_10.r.length x_9.c1, .slice x_9.a2 m_10.w.length x_9.c2]) (cs' := [.slice x_9.a0 m_10.s.length x_9.c0, .slice x_9.a1 m_10.r.length x_9.c1, .slice x_9.a2 m_10.w.length x_9.c2]) rfl rfl rfl rfl Tryz.sizeOf32 rfl rfl (Nat.le_of_ble_eq_true rfl) rfl) ?_
  rintro _ _ rfl
  refine JL.pure rfl (PO.assign (v := str u_11) rfl) ?_
  refine JL.nil ?_
  refine JQ.seq ?_
  refine JC.ret ?_
  refine Done.two (.inl rfl) rfl (RV.cell1 (LO.loadK 3 (vs := [.slice x_9.a0 m_10.s.length x_9.c0, .slice x_9.a1 m_10.r.length x_9.c1, .slice x_9.a2 m_10.w.length x_9.c2]) rfl rfl Tryz.isAgg32 Tryz.sizeOf32 rfl rfl) ⟨_, rfl⟩) (RV.tmp (v := str u_11) rfl) (List.sublist_append_left [rC x_9.a0 x_9.c0 m_10.s, rS x_9.a1 x_9.c1 m_10.r, rS x_9.a2 x_9.c2 m_10.w] [mb b_2 x_9 m_10, mb b_1 x m]) ?_
  exact ⟨x_9, m_10, u_11, (by simp only [if_true, e_7, if_true, if_false, Bool.false_eq_true, Bool.not_true, Bool.not_false]; (repeat (first | rw [if_pos (by omega)] | rw [if_neg (by omega)])); all_goals (first | rfl | simp only [if_true, if_false, Bool.false_eq_true, Bool.not_true, Bool.not_false, e_7])), (k_8.mono (by omega) (by omega)), (by first | omega | (simp only [List.length_append, List.length_cons, List.length_nil, List.length_take, List.length_drop]; omega)), rfl, rfl⟩

end Go.Proofs.YthkffdkkffddeaaGreatDoor
