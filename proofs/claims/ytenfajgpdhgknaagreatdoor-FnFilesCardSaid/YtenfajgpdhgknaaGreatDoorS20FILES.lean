/-
  Bytes of files (part 20).
-/
import Derived.Test.YtenfajgpdhgknaaGreatDoorS18HEX
import Derived.Lib.MinMax
set_option linter.unusedSimpArgs false
set_option linter.unusedVariables false
set_option linter.unnecessarySimpa false
namespace Go.Proofs.YtenfajgpdhgknaaGreatDoor
open Go Go.RowKit
section
variable {P : Program} {n : Nat} {e : Env} {d : Option Tmp} {ty : TypeId} {pos : String} {aft : Array Edge} {gd : Option (Nat × Bool)}
theorem PO.min2 {x y : Operand} {a b c : Int} {ts : Array TypeId} (hx : rd n e x = .int .i64 a) (hy : rd n e y = .int .i64 b) (hc : min a b = c) : PO P n e ⟨d, .call ⟨.builtin .min, #[x, y], ts⟩, ty, pos, aft, gd⟩ (.int .i64 c) := fun w => by
  subst hc
  simp [execOp, resolve, invoke, builtin, hx, hy, Lib.run_min_ints]
theorem PO.max2 {x y : Operand} {a b c : Int} {ts : Array TypeId} (hx : rd n e x = .int .i64 a) (hy : rd n e y = .int .i64 b) (hc : max a b = c) : PO P n e ⟨d, .call ⟨.builtin .max, #[x, y], ts⟩, ty, pos, aft, gd⟩ (.int .i64 c) := fun w => by
  subst hc
  simp [execOp, resolve, invoke, builtin, hx, hy, Lib.run_max_ints]
theorem PO.min3 {x y z : Operand} {a b q c : Int} {ts : Array TypeId} (hx : rd n e x = .int .i64 a) (hy : rd n e y = .int .i64 b) (hz : rd n e z = .int .i64 q) (hc : min (min a b) q = c) : PO P n e ⟨d, .call ⟨.builtin .min, #[x, y, z], ts⟩, ty, pos, aft, gd⟩ (.int .i64 c) := fun w => by
  have e1 : (if b < a then b else a) = min a b := by
    rw [Int.min_def]
    split <;> split <;> omega
  have e2 : (if q < min a b then q else min a b) = min (min a b) q := by
    generalize min a b = r
    rw [Int.min_def]
    split <;> split <;> omega
  subst hc
  simp [execOp, resolve, invoke, builtin, hx, hy, hz, Builtin.min_, Builtin.min2, e1, e2]
end
attribute [local irreducible] JL JC JQ JO LO PO JA JX Ct

theorem M_sizeFile (x : MA) (m : MS) {S T : Nat} (hk : m.ok S T) (hS : S ≤ 90000000) (hT : T ≤ 90000000) (id : Int) (hid : -9223372036854775808 ≤ id ∧ id ≤ 9223372036854775807) :
    Ct Tryz.prog 206 [mv x m, .int .i64 id] (mr x m) (fun _ => True) (fun v A' => ∃ x' m' r0, MS.sizeOf m id = (m', r0) ∧ m'.ok (S) (T + 1) ∧ (0 ≤ r0 ∧ r0 ≤ 999) ∧ v = .tuple #[mv x' m', .int .i64 r0] ∧ A' = mr x' m') := by
  refine Ct.intro Tryz.func206 rfl Tryz.ntmps206 (Nat.le_of_ble_eq_true rfl) fun w0 hpre => ?_
  refine JC.seq ?_
  refine JC.region ?_
  refine JL.op rfl (JO.box (cs := [.slice x.a0 m.s.length x.c0, .slice x.a1 m.r.length x.c1, .slice x.a2 m.w.length x.c2]) rfl rfl) ?_
  rintro _ _ ⟨b_1, rfl, rfl⟩
  refine JL.op rfl (JO.alloc (z := .agg #[.slice none 0 0, .slice none 0 0, .slice none 0 0]) (cs := [.slice none 0 0, .slice none 0 0, .slice none 0 0]) Tryz.zeroValue32 rfl) ?_
  rintro _ _ ⟨b_2, rfl, rfl⟩
  refine JL.pure rfl (PO.assign (v := .int .i64 0) rfl) ?_
  refine JL.nil ?_
  refine JQ.seq ?_
  refine JC.seq ?_
  refine JC.regionA [mb b_1 x m] 6 mixed (by simp) ?_
  refine JA.take 0 rfl (by kernel_rfl) (NP.th NP.body) (by kernel_rfl) (by kernel_rfl) (by kernel_rfl) rfl (LO.loadK 0 (vs := [.slice x.a0 m.s.length x.c0, .slice x.a1 m.r.length x.c1, .slice x.a2 m.w.length x.c2]) rfl rfl Tryz.isAgg32 Tryz.sizeOf32 rfl rfl) ?_
  refine JA.takeP 1 rfl (by kernel_rfl) (NP.th NP.body) (by kernel_rfl) (by kernel_rfl) rfl (PO.move (v := .int .i64 id) rfl) ?_
  refine JA.one (i := 2) (by kernel_rfl) ?_
  refine JX.op rfl rfl (JO.call [] Tryz.call219 rfl (N_sKeyNum [105, 47] id [47, 115] (show List.length ([105, 47] : Str) ≤ 2 by decide) (by omega) (show List.length ([47, 115] : Str) ≤ 2 by decide) (by omega)) rfl (fun _ _ => trivial)) ?_
  rintro _ _ ⟨_, ⟨u_9, e_7, f_10, rfl, rfl⟩, rfl⟩
  refine ⟨(by simp), ?_⟩
  refine JA.one (i := 3) (by kernel_rfl) ?_
  refine JX.op rfl rfl (JO.call [2, 2, 2] Tryz.call228 rfl (N_sNumAt x m hk (by omega) (by omega) u_9) rfl (fun _ _ => trivial)) ?_
  rintro _ _ ⟨_, ⟨x_19, m_20, n_21, e_17, k_18, f_22, rfl, rfl⟩, rfl⟩
  refine ⟨(by simp), ?_⟩
  refine JA.takeP 4 rfl (by kernel_rfl) (NP.th NP.body) (by kernel_rfl) (by kernel_rfl) rfl (PO.extract (v := mv x_19 m_20) rfl rfl) ?_
  refine JA.takeP 5 rfl (by kernel_rfl) (NP.th NP.body) (by kernel_rfl) (by kernel_rfl) rfl (PO.extract (v := .int .i64 n_21) rfl rfl) ?_
  refine JA.one (i := 6) (by kernel_rfl) ?_
  refine JX.late rfl rfl (by decide) (by kernel_rfl) (JO.store 3 (vs := [.slice x_19.a0 m_20.s.length x_19.c0, .slice x_19.a1 m_20.r.length x_19.c1, .slice x_19.a2 m_20.w.length x_19.c2]) (cs' := [.slice x_19.a0 m_20.s.length x_19.c0, .slice x_19.a1 m_20.r.length x_19.c1, .slice x_19.a2 m_20.w.length x_19.c2]) rfl rfl rfl rfl Tryz.sizeOf32 rfl rfl (Nat.le_of_ble_eq_true rfl) rfl) ?_
  rintro _ _ rfl
  refine JA.takeP 7 rfl (by kernel_rfl) (NP.th NP.body) (by kernel_rfl) (by kernel_rfl) rfl (PO.assign (v := .int .i64 n_21) rfl) ?_
  refine JA.done (by kernel_rfl) ?_
  refine JQ.seq ?_
  refine JC.ret ?_
  refine Done.two (.inl rfl) rfl (RV.cell1 (LO.loadK 3 (vs := [.slice x_19.a0 m_20.s.length x_19.c0, .slice x_19.a1 m_20.r.length x_19.c1, .slice x_19.a2 m_20.w.length x_19.c2]) rfl rfl Tryz.isAgg32 Tryz.sizeOf32 rfl rfl) ⟨_, rfl⟩) (RV.tmp (v := .int .i64 n_21) rfl) (List.sublist_append_left [rC x_19.a0 x_19.c0 m_20.s, rS x_19.a1 x_19.c1 m_20.r, rS x_19.a2 x_19.c2 m_20.w] [mb b_2 x_19 m_20, mb b_1 x m]) ?_
  exact ⟨x_19, m_20, n_21, (by simp only [MS.sizeOf, e_7, e_17, if_true, if_false, Bool.false_eq_true, Bool.not_true, Bool.not_false]; (repeat (first | rw [if_pos (by omega)] | rw [if_neg (by omega)])); all_goals (first | rfl | simp only [if_true, if_false, Bool.false_eq_true, Bool.not_true, Bool.not_false, e_7, e_17])), (k_18.mono (by omega) (by omega)), (by first | omega | (simp only [List.length_append, List.length_cons, List.length_nil, List.length_take, List.length_drop]; omega)), rfl, rfl⟩

theorem N_block (p : Nat) (x : MA) (m : MS) {S T : Nat} (hk : m.ok S T) (hS : S ≤ 90000000) (hT : T ≤ 90000000) (id : Int) (place : Int) (hid : -9223372036854775808 ≤ id ∧ id ≤ 9223372036854775807) (hplace : -9223372036854775808 ≤ place ∧ place ≤ 9223372036854775807) :
    Ct Tryz.prog 207 [.pointer (some ⟨p, 0, none⟩), .int .i64 id, .int .i64 place] (mb p x m :: mr x m) (fun w => HexOk w) (fun v A' => ∃ x' m' r0, MS.block m id place = (m', r0) ∧ m'.ok (S) (T + 1) ∧ r0.length ≤ 20000 ∧ v = str r0 ∧ A' = mb p x' m' :: mr x' m') := by
  refine Ct.introL Tryz.func207 rfl Tryz.ntmps207 (Nat.le_of_ble_eq_true rfl) fun w0 hpre hlow => ?_
  refine JC.seq ?_
  refine JC.region ?_
  refine JL.pure rfl (PO.assign (v := str []) rfl) ?_
  refine JL.nil ?_
  refine JQ.seq ?_
  refine JC.seq ?_
  refine JC.region ?_
  refine JL.pure rfl (PO.move (v := .pointer (some ⟨p, 0, none⟩)) rfl) ?_
  refine JL.pure rfl (PO.move (v := .int .i64 id) rfl) ?_
  refine JL.pure rfl (PO.move (v := .int .i64 place) rfl) ?_
  refine JL.op rfl (JO.call [] Tryz.call249 rfl (N_blockKey id place (by omega) (by omega)) rfl (fun _ _ => trivial)) ?_
  rintro _ _ ⟨_, ⟨u_3, e_1, f_4, rfl, rfl⟩, rfl⟩
  refine JL.op rfl (JO.call [0, 0, 0, 0] Tryz.call264 rfl (N_look p x m hk (by omega) (by omega) u_3) rfl (fun _ _ => trivial)) ?_
  rintro _ _ ⟨_, ⟨x_7, m_8, u_9, e_5, k_6, f_10, rfl, rfl⟩, rfl⟩
  refine JL.op rfl (JO.call [] Tryz.call272 rfl (N_unhex u_9 (by omega)) rfl (fun w hw => hw.hex hlow hpre)) ?_
  rintro _ _ ⟨_, ⟨u_13, b_15, e_11, f_14, rfl, rfl⟩, rfl⟩
  refine JL.pure rfl (PO.move (v := .tuple #[str u_13, .bool b_15]) rfl) ?_
  refine JL.pure rfl (PO.extract (v := str u_13) rfl rfl) ?_
  refine JL.pure rfl (PO.extract (v := .bool b_15) rfl rfl) ?_
  refine JL.pure rfl (PO.assign (v := str u_13) rfl) ?_
  refine JL.pure rfl (PO.assign (v := .bool b_15) rfl) ?_
  refine JL.nil ?_
  refine JQ.seq ?_
  refine JC.seq ?_
  refine JC.region ?_
  refine JL.pure rfl (PO.move (v := str u_13) rfl) ?_
  refine JL.pure rfl (PO.assign (v := str u_13) rfl) ?_
  refine JL.nil ?_
  refine JQ.seq ?_
  refine JC.ret ?_
  refine Done.one (.inl rfl) rfl (RV.tmp (v := str u_13) rfl) (List.Sublist.refl _) ?_
  exact ⟨x_7, m_8, u_13, (by simp only [MS.block, e_1, e_5, e_11, if_true, if_false, Bool.false_eq_true, Bool.not_true, Bool.not_false]; (repeat (first | rw [if_pos (by omega)] | rw [if_neg (by omega)])); all_goals (first | rfl | simp only [if_true, if_false, Bool.false_eq_true, Bool.not_true, Bool.not_false, e_1, e_5, e_11])), (k_6.mono (by omega) (by omega)), (by first | omega | (simp only [List.length_append, List.length_cons, List.length_nil, List.length_take, List.length_drop]; omega)), rfl, rfl⟩

theorem M_block (x : MA) (m : MS) {S T : Nat} (hk : m.ok S T) (hS : S ≤ 90000000) (hT : T ≤ 90000000) (id : Int) (place : Int) (hid : -9223372036854775808 ≤ id ∧ id ≤ 9223372036854775807) (hplace : -9223372036854775808 ≤ place ∧ place ≤ 9223372036854775807) :
    Ct Tryz.prog 208 [mv x m, .int .i64 id, .int .i64 place] (mr x m) (fun _ => True) (fun v A' => ∃ x' m' r0, MS.block m id place = (m', r0) ∧ m'.ok (S) (T + 1) ∧ r0.length ≤ 20000 ∧ v = .tuple #[mv x' m', str r0] ∧ A' = mr x' m') := by
  refine Ct.intro Tryz.func208 rfl Tryz.ntmps208 (Nat.le_of_ble_eq_true rfl) fun w0 hpre => ?_
  refine JC.seq ?_
  refine JC.region ?_
  refine JL.op rfl (JO.box (cs := [.slice x.a0 m.s.length x.c0, .slice x.a1 m.r.length x.c1, .slice x.a2 m.w.length x.c2]) rfl rfl) ?_
  rintro _ _ ⟨b_1, rfl, rfl⟩
  refine JL.op rfl (JO.alloc (z := .agg #[.slice none 0 0, .slice none 0 0, .slice none 0 0]) (cs := [.slice none 0 0, .slice none 0 0, .slice none 0 0]) Tryz.zeroValue32 rfl) ?_
  rintro _ _ ⟨b_2, rfl, rfl⟩
  refine JL.pure rfl (PO.assign (v := str []) rfl) ?_
  refine JL.nil ?_
  refine JQ.seq ?_
  refine JC.seq ?_
  refine JC.regionA [mb b_1 x m] 8 mixed (by simp) ?_
  refine JA.take 0 rfl (by kernel_rfl) (NP.th NP.body) (by kernel_rfl) (by kernel_rfl) (by kernel_rfl) rfl (LO.loadK 0 (vs := [.slice x.a0 m.s.length x.c0, .slice x.a1 m.r.length x.c1, .slice x.a2 m.w.length x.c2]) rfl rfl Tryz.isAgg32 Tryz.sizeOf32 rfl rfl) ?_
  refine JA.takeP 1 rfl (by kernel_rfl) (NP.th NP.body) (by kernel_rfl) (by kernel_rfl) rfl (PO.move (v := .int .i64 id) rfl) ?_
  refine JA.takeP 2 rfl (by kernel_rfl) (NP.th NP.body) (by kernel_rfl) (by kernel_rfl) rfl (PO.move (v := .int .i64 place) rfl) ?_
  refine JA.one (i := 3) (by kernel_rfl) ?_
  refine JX.op rfl rfl (JO.call [] Tryz.call248 rfl (N_l07Block id place (by omega) (by omega)) rfl (fun _ _ => trivial)) ?_
  rintro _ _ ⟨_, ⟨u_9, e_7, f_10, rfl, rfl⟩, rfl⟩
  refine ⟨(by simp), ?_⟩
  refine JA.one (i := 4) (by kernel_rfl) ?_
  refine JX.op rfl rfl (JO.call [2, 2, 2] Tryz.call230 rfl (N_sLook x m hk (by omega) (by omega) u_9) rfl (fun _ _ => trivial)) ?_
  rintro _ _ ⟨_, ⟨x_19, m_20, u_21, e_17, k_18, f_22, rfl, rfl⟩, rfl⟩
  refine ⟨(by simp), ?_⟩
  refine JA.takeP 5 rfl (by kernel_rfl) (NP.th NP.body) (by kernel_rfl) (by kernel_rfl) rfl (PO.move (v := .tuple #[mv x_19 m_20, str u_21]) rfl) ?_
  refine JA.takeP 6 rfl (by kernel_rfl) (NP.th NP.body) (by kernel_rfl) (by kernel_rfl) rfl (PO.extract (v := mv x_19 m_20) rfl rfl) ?_
  refine JA.takeP 7 rfl (by kernel_rfl) (NP.th NP.body) (by kernel_rfl) (by kernel_rfl) rfl (PO.extract (v := str u_21) rfl rfl) ?_
  refine JA.one (i := 8) (by kernel_rfl) ?_
  refine JX.late rfl rfl (by decide) (by kernel_rfl) (JO.store 4 (vs := [.slice x_19.a0 m_20.s.length x_19.c0, .slice x_19.a1 m_20.r.length x_19.c1, .slice x_19.a2 m_20.w.length x_19.c2]) (cs' := [.slice x_19.a0 m_20.s.length x_19.c0, .slice x_19.a1 m_20.r.length x_19.c1, .slice x_19.a2 m_20.w.length x_19.c2]) rfl rfl rfl rfl Tryz.sizeOf32 rfl rfl (Nat.le_of_ble_eq_true rfl) rfl) ?_
  rintro _ _ rfl
  refine JA.takeP 9 rfl (by kernel_rfl) (NP.th NP.body) (by kernel_rfl) (by kernel_rfl) rfl (PO.assign (v := str u_21) rfl) ?_
  refine JA.done (by kernel_rfl) ?_
  refine JQ.seq ?_
  refine JC.seq ?_
  refine JC.region ?_
  refine JL.pure rfl (PO.move (v := str u_21) rfl) ?_
  refine JL.op rfl (JO.call [] Tryz.call220 rfl (N_sUnhex u_21 (by omega)) rfl (fun _ _ => trivial)) ?_
  rintro _ _ ⟨_, ⟨u_25, b_27, e_23, f_26, rfl, rfl⟩, rfl⟩
  refine JL.pure rfl (PO.move (v := .tuple #[str u_25, .bool b_27]) rfl) ?_
  refine JL.pure rfl (PO.extract (v := str u_25) rfl rfl) ?_
  refine JL.pure rfl (PO.extract (v := .bool b_27) rfl rfl) ?_
  refine JL.pure rfl (PO.assign (v := str u_25) rfl) ?_
  refine JL.pure rfl (PO.assign (v := .bool b_27) rfl) ?_
  refine JL.nil ?_
  refine JQ.seq ?_
  refine JC.seq ?_
  refine JC.seq ?_
  refine JC.region ?_
  refine JL.pure rfl (PO.move (v := .bool b_27) rfl) ?_
  refine JL.pure rfl (PO.not rfl) ?_
  refine JL.nil ?_
  refine JQ.seq ?_
  rcases Bool.eq_false_or_eq_true (b_27) with h_28 | h_28
  · skip
    refine JC.condF (congrArg Value.bool (congrArg Bool.not h_28)) ?_
    refine JC.skip ?_
    refine JQ.seq ?_
    refine JC.seq ?_
    refine JC.region ?_
    refine JL.ld rfl (LO.loadK 4 (vs := [.slice x_19.a0 m_20.s.length x_19.c0, .slice x_19.a1 m_20.r.length x_19.c1, .slice x_19.a2 m_20.w.length x_19.c2]) rfl rfl Tryz.isAgg32 Tryz.sizeOf32 rfl rfl) ?_
    refine JL.pure rfl (PO.move (v := str u_25) rfl) ?_
    refine JL.op rfl (JO.store 3 (vs := [.slice x_19.a0 m_20.s.length x_19.c0, .slice x_19.a1 m_20.r.length x_19.c1, .slice x_19.a2 m_20.w.length x_19.c2]) (cs' := [.slice x_19.a0 m_20.s.length x_19.c0, .slice x_19.a1 m_20.r.length x_19.c1, .slice x_19.a2 m_20.w.length x_19.c2]) rfl rfl rfl rfl Tryz.sizeOf32 rfl rfl (Nat.le_of_ble_eq_true rfl) rfl) ?_
    rintro _ _ rfl
    refine JL.pure rfl (PO.assign (v := str u_25) rfl) ?_
    refine JL.nil ?_
    refine JQ.seq ?_
    refine JC.ret ?_
    refine Done.two (.inl rfl) rfl (RV.cell1 (LO.loadK 3 (vs := [.slice x_19.a0 m_20.s.length x_19.c0, .slice x_19.a1 m_20.r.length x_19.c1, .slice x_19.a2 m_20.w.length x_19.c2]) rfl rfl Tryz.isAgg32 Tryz.sizeOf32 rfl rfl) ⟨_, rfl⟩) (RV.tmp (v := str u_25) rfl) (List.sublist_append_left [rC x_19.a0 x_19.c0 m_20.s, rS x_19.a1 x_19.c1 m_20.r, rS x_19.a2 x_19.c2 m_20.w] [mb b_2 x_19 m_20, mb b_1 x_19 m_20]) ?_
    exact ⟨x_19, m_20, u_25, (by simp only [MS.block, e_7, e_17, e_23, h_28, if_true, if_false, Bool.false_eq_true, Bool.not_true, Bool.not_false]; (repeat (first | rw [if_pos (by omega)] | rw [if_neg (by omega)])); all_goals (first | rfl | simp only [if_true, if_false, Bool.false_eq_true, Bool.not_true, Bool.not_false, e_7, e_17, e_23, h_28])), (k_18.mono (by omega) (by omega)), (by first | omega | (simp only [List.length_append, List.length_cons, List.length_nil, List.length_take, List.length_drop]; omega)), rfl, rfl⟩
  · skip
    have hu := unhex_fst (e_23.trans (congrArg _ h_28))
    refine JC.condT (congrArg Value.bool (congrArg Bool.not h_28)) ?_
    refine JC.seq ?_
    refine JC.region ?_
    refine JL.ld rfl (LO.loadK 4 (vs := [.slice x_19.a0 m_20.s.length x_19.c0, .slice x_19.a1 m_20.r.length x_19.c1, .slice x_19.a2 m_20.w.length x_19.c2]) rfl rfl Tryz.isAgg32 Tryz.sizeOf32 rfl rfl) ?_
    refine JL.op rfl (JO.store 3 (vs := [.slice x_19.a0 m_20.s.length x_19.c0, .slice x_19.a1 m_20.r.length x_19.c1, .slice x_19.a2 m_20.w.length x_19.c2]) (cs' := [.slice x_19.a0 m_20.s.length x_19.c0, .slice x_19.a1 m_20.r.length x_19.c1, .slice x_19.a2 m_20.w.length x_19.c2]) rfl rfl rfl rfl Tryz.sizeOf32 rfl rfl (Nat.le_of_ble_eq_true rfl) rfl) ?_
    rintro _ _ rfl
    refine JL.pure rfl (PO.assign (v := str []) rfl) ?_
    refine JL.nil ?_
    refine JQ.seq ?_
    refine JC.ret ?_
    refine JQ.thenRet ?_
    refine Done.two (.inl rfl) rfl (RV.cell1 (LO.loadK 3 (vs := [.slice x_19.a0 m_20.s.length x_19.c0, .slice x_19.a1 m_20.r.length x_19.c1, .slice x_19.a2 m_20.w.length x_19.c2]) rfl rfl Tryz.isAgg32 Tryz.sizeOf32 rfl rfl) ⟨_, rfl⟩) (RV.tmp (v := str []) rfl) (List.sublist_append_left [rC x_19.a0 x_19.c0 m_20.s, rS x_19.a1 x_19.c1 m_20.r, rS x_19.a2 x_19.c2 m_20.w] [mb b_2 x_19 m_20, mb b_1 x_19 m_20]) ?_
    exact ⟨x_19, m_20, [], (by simp only [MS.block, e_7, e_17, e_23, h_28, hu, if_true, if_false, Bool.false_eq_true, Bool.not_true, Bool.not_false]; (repeat (first | rw [if_pos (by omega)] | rw [if_neg (by omega)])); all_goals (first | rfl | simp only [if_true, if_false, Bool.false_eq_true, Bool.not_true, Bool.not_false, e_7, e_17, e_23, h_28, hu])), (k_18.mono (by omega) (by omega)), (by first | omega | (simp only [List.length_append, List.length_cons, List.length_nil, List.length_take, List.length_drop]; omega)), rfl, rfl⟩

theorem M_layBlock (x : MA) (m : MS) {S T : Nat} (hk : m.ok S T) (hS : S ≤ 90000000) (hT : T ≤ 90000000) (id : Int) (place : Int) (t : Str) (hid : -9223372036854775808 ≤ id ∧ id ≤ 9223372036854775807) (hplace : -9223372036854775808 ≤ place ∧ place ≤ 9223372036854775807) (ht : t.length ≤ 1000000000000) :
    Ct Tryz.prog 247 [mv x m, .int .i64 id, .int .i64 place, str t] (mr x m) (fun _ => True) (fun v A' => ∃ x' m', (fun m i p t => m.lay (keyNum (keyNum ([105, 47] : Str) i ([47, 98, 47] : Str)) p []) (hexS t)) m id place t = m' ∧ m'.ok (S + 1) (T + 1) ∧ v = mv x' m' ∧ A' = mr x' m') := by
  refine Ct.intro Tryz.func247 rfl Tryz.ntmps247 (Nat.le_of_ble_eq_true rfl) fun w0 hpre => ?_
  refine JC.seq ?_
  refine JC.region ?_
  refine JL.op rfl (JO.box (cs := [.slice x.a0 m.s.length x.c0, .slice x.a1 m.r.length x.c1, .slice x.a2 m.w.length x.c2]) rfl rfl) ?_
  rintro _ _ ⟨b_1, rfl, rfl⟩
  refine JL.op rfl (JO.alloc (z := .agg #[.slice none 0 0, .slice none 0 0, .slice none 0 0]) (cs := [.slice none 0 0, .slice none 0 0, .slice none 0 0]) Tryz.zeroValue32 rfl) ?_
  rintro _ _ ⟨b_2, rfl, rfl⟩
  refine JL.nil ?_
  refine JQ.seq ?_
  refine JC.seq ?_
  refine JC.region ?_
  refine JL.pure rfl (PO.move (v := str t) rfl) ?_
  refine JL.op rfl (JO.call [] Tryz.call263 rfl (N_sHex t (by omega)) rfl (fun _ _ => trivial)) ?_
  rintro _ _ ⟨_, ⟨u_5, b_7, e_3, f_6, rfl, rfl⟩, rfl⟩
  refine JL.pure rfl (PO.move (v := .tuple #[str u_5, .bool b_7]) rfl) ?_
  refine JL.pure rfl (PO.extract (v := str u_5) rfl rfl) ?_
  refine JL.pure rfl (PO.extract (v := .bool b_7) rfl rfl) ?_
  refine JL.pure rfl (PO.assign (v := str u_5) rfl) ?_
  refine JL.pure rfl (PO.assign (v := .bool b_7) rfl) ?_
  refine JL.nil ?_
  refine JQ.seq ?_
  refine JC.seq ?_
  refine JC.regionA [mb b_1 x m] 5 mixed (by simp) ?_
  refine JA.take 0 rfl (by kernel_rfl) (NP.th NP.body) (by kernel_rfl) (by kernel_rfl) (by kernel_rfl) rfl (LO.loadK 0 (vs := [.slice x.a0 m.s.length x.c0, .slice x.a1 m.r.length x.c1, .slice x.a2 m.w.length x.c2]) rfl rfl Tryz.isAgg32 Tryz.sizeOf32 rfl rfl) ?_
  refine JA.takeP 1 rfl (by kernel_rfl) (NP.th NP.body) (by kernel_rfl) (by kernel_rfl) rfl (PO.move (v := .int .i64 id) rfl) ?_
  refine JA.takeP 2 rfl (by kernel_rfl) (NP.th NP.body) (by kernel_rfl) (by kernel_rfl) rfl (PO.move (v := .int .i64 place) rfl) ?_
  refine JA.takeP 4 rfl (by kernel_rfl) (NP.th NP.body) (by kernel_rfl) (by kernel_rfl) rfl (PO.move (v := str u_5) rfl) ?_
  refine JA.one (i := 3) (by kernel_rfl) ?_
  refine JX.op rfl rfl (JO.call [] Tryz.call248 rfl (N_l07Block id place (by omega) (by omega)) rfl (fun _ _ => trivial)) ?_
  rintro _ _ ⟨_, ⟨u_18, e_16, f_19, rfl, rfl⟩, rfl⟩
  refine ⟨(by simp), ?_⟩
  refine JA.one (i := 5) (by kernel_rfl) ?_
  refine JX.late rfl rfl (by decide) (by kernel_rfl) (JO.call [2, 2, 2] Tryz.call232 rfl (N_sLay x m hk (by omega) (by omega) u_18 u_5 (by omega)) rfl (fun _ _ => trivial)) ?_
  rintro _ _ ⟨_, ⟨x_26, m_27, e_24, k_25, rfl, rfl⟩, rfl⟩
  refine JA.one (i := 6) (by kernel_rfl) ?_
  refine JX.last rfl rfl (by decide) (by kernel_rfl) (JO.store 3 (vs := [.slice x_26.a0 m_27.s.length x_26.c0, .slice x_26.a1 m_27.r.length x_26.c1, .slice x_26.a2 m_27.w.length x_26.c2]) (cs' := [.slice x_26.a0 m_27.s.length x_26.c0, .slice x_26.a1 m_27.r.length x_26.c1, .slice x_26.a2 m_27.w.length x_26.c2]) rfl rfl rfl rfl Tryz.sizeOf32 rfl rfl (Nat.le_of_ble_eq_true rfl) rfl) ?_
  rintro _ _ rfl
  refine JQ.seq ?_
  refine JC.ret ?_
  refine Done.one (.inl rfl) rfl (RV.cell1 (LO.loadK 3 (vs := [.slice x_26.a0 m_27.s.length x_26.c0, .slice x_26.a1 m_27.r.length x_26.c1, .slice x_26.a2 m_27.w.length x_26.c2]) rfl rfl Tryz.isAgg32 Tryz.sizeOf32 rfl rfl) ⟨_, rfl⟩) (List.sublist_append_left [rC x_26.a0 x_26.c0 m_27.s, rS x_26.a1 x_26.c1 m_27.r, rS x_26.a2 x_26.c2 m_27.w] [mb b_2 x_26 m_27, mb b_1 x m]) ?_
  exact ⟨x_26, m_27, (by simp only [hexS_P, e_3, e_16, e_24, if_true, if_false, Bool.false_eq_true, Bool.not_true, Bool.not_false]; (repeat (first | rw [if_pos (by omega)] | rw [if_neg (by omega)])); all_goals (first | rfl | simp only [if_true, if_false, Bool.false_eq_true, Bool.not_true, Bool.not_false, e_3, e_16, e_24])), (k_25.mono (by omega) (by omega)), rfl, rfl⟩

theorem N_readFile (p : Nat) (x : MA) (m : MS) {S T : Nat} (hk : m.ok S T) (hS : S ≤ 50000000) (hT : T ≤ 50000000) (id : Int) (at_ : Int) (n : Int) (hid : -9223372036854775808 ≤ id ∧ id ≤ 9223372036854775807) (hat_ : -9223372036854775808 ≤ at_ ∧ at_ ≤ 9223372036854775807) (hn : -9223372036854775808 ≤ n ∧ n ≤ 9223372036854775807) :
    Ct Tryz.prog 203 [.pointer (some ⟨p, 0, none⟩), .int .i64 id, .int .i64 at_, .int .i64 n] (mb p x m :: mr x m) (fun w => HexOk w) (fun v A' => ∃ x' m' r0, MS.readFile m id at_ n = (m', r0) ∧ m'.ok (S) (T + 130) ∧ r0.length ≤ 1016 ∧ v = str r0 ∧ A' = mb p x' m' :: mr x' m') := by
  refine Ct.introL Tryz.func203 rfl Tryz.ntmps203 (Nat.le_of_ble_eq_true rfl) fun w0 hpre hlow => ?_
  refine JC.seq ?_
  refine JC.region ?_
  refine JL.pure rfl (PO.assign (v := str []) rfl) ?_
  refine JL.nil ?_
  refine JQ.seq ?_
  refine JC.seq ?_
  refine JC.region ?_
  refine JL.pure rfl (PO.move (v := .pointer (some ⟨p, 0, none⟩)) rfl) ?_
  refine JL.pure rfl (PO.move (v := .int .i64 id) rfl) ?_
  refine JL.op rfl (JO.call [] Tryz.call205 rfl (N_sizeKey id (by omega)) rfl (fun _ _ => trivial)) ?_
  rintro _ _ ⟨_, ⟨u_3, e_1, f_4, rfl, rfl⟩, rfl⟩
  refine JL.op rfl (JO.call [0, 0, 0, 0] Tryz.call170 rfl (N_num p x m hk (by omega) (by omega) u_3) rfl (fun _ _ => trivial)) ?_
  rintro _ _ ⟨_, ⟨x_7, m_8, n_9, e_5, k_6, f_10, rfl, rfl⟩, rfl⟩
  refine JL.pure rfl (PO.assign (v := .int .i64 n_9) rfl) ?_
  refine JL.nil ?_
  refine JQ.seq ?_
  refine JC.seq ?_
  refine JC.seq ?_
  refine JC.region ?_
  refine JL.pure rfl (PO.move (v := .int .i64 at_) rfl) ?_
  refine JL.pure rfl (PO.lss rfl rfl) ?_
  refine JL.pure rfl (PO.move (v := .bool (decide (at_ < 0))) rfl) ?_
  by_cases h_11 : at_ < 0
  · skip
    refine JL.guardOff (b := true) rfl rfl rfl (congrArg Value.bool (decide_eq_true h_11)) ?_
    refine JL.guardOff (b := true) rfl rfl rfl (congrArg Value.bool (decide_eq_true h_11)) ?_
    refine JL.pure rfl (PO.pickT (v := .bool true) (congrArg Value.bool (decide_eq_true h_11)) rfl) ?_
    refine JL.pure rfl (PO.move (v := .bool true) rfl) ?_
    refine JL.guardOff (b := true) rfl rfl rfl (congrArg Value.bool rfl) ?_
    refine JL.guardOff (b := true) rfl rfl rfl (congrArg Value.bool rfl) ?_
    refine JL.guardOff (b := true) rfl rfl rfl (congrArg Value.bool rfl) ?_
    refine JL.pure rfl (PO.pickT (v := .bool true) (congrArg Value.bool rfl) rfl) ?_
    refine JL.nil ?_
    refine JQ.seq ?_
    refine JC.condT (congrArg Value.bool rfl) ?_
    refine JC.seq ?_
    refine JC.region ?_
    refine JL.pure rfl (PO.assign (v := str []) rfl) ?_
    refine JL.nil ?_
    refine JQ.seq ?_
    refine JC.ret ?_
    refine JQ.thenRet ?_
    refine Done.one (.inl rfl) rfl (RV.tmp (v := str []) rfl) (List.Sublist.refl _) ?_
    exact ⟨x_7, m_8, [], (by simp only [MS.readFile, Int.toNat_natCast, true_or, or_true, false_or, or_false, MS.sizeOf, e_1, e_5, h_11, if_true, if_false, Bool.false_eq_true, Bool.not_true, Bool.not_false]; (repeat (first | rw [if_pos (by omega)] | rw [if_neg (by omega)])); all_goals (first | rfl | simp only [if_true, if_false, Bool.false_eq_true, Bool.not_true, Bool.not_false, e_1, e_5, h_11])), (k_6.mono (by omega) (by omega)), (by first | omega | (simp only [List.length_append, List.length_cons, List.length_nil, List.length_take, List.length_drop]; omega)), rfl, rfl⟩
  · skip
    obtain ⟨a, hat⟩ : ∃ a : Nat, at_ = ((a : Nat) : Int) := ⟨at_.toNat, by omega⟩
    refine JL.guardOn rfl rfl rfl (congrArg Value.bool (decide_eq_false h_11)) (JO.ofLO (LO.pure (PO.move (v := .int .i64 n) rfl))) ?_
    rintro _ _ ⟨rfl, rfl⟩
    refine JL.guardOn rfl rfl rfl (congrArg Value.bool (decide_eq_false h_11)) (JO.ofLO (LO.pure (PO.lss rfl rfl))) ?_
    rintro _ _ ⟨rfl, rfl⟩
    refine JL.pure rfl (PO.pickF (v := .bool (decide (n < 1))) (congrArg Value.bool (decide_eq_false h_11)) rfl) ?_
    refine JL.pure rfl (PO.move (v := .bool (decide (n < 1))) rfl) ?_
    by_cases h_12 : n < 1
    · skip
      refine JL.guardOff (b := true) rfl rfl rfl (congrArg Value.bool (decide_eq_true h_12)) ?_
      refine JL.guardOff (b := true) rfl rfl rfl (congrArg Value.bool (decide_eq_true h_12)) ?_
      refine JL.guardOff (b := true) rfl rfl rfl (congrArg Value.bool (decide_eq_true h_12)) ?_
      refine JL.pure rfl (PO.pickT (v := .bool true) (congrArg Value.bool (decide_eq_true h_12)) rfl) ?_
      refine JL.nil ?_
      refine JQ.seq ?_
      refine JC.condT (congrArg Value.bool rfl) ?_
      refine JC.seq ?_
      refine JC.region ?_
      refine JL.pure rfl (PO.assign (v := str []) rfl) ?_
      refine JL.nil ?_
      refine JQ.seq ?_
      refine JC.ret ?_
      refine JQ.thenRet ?_
      refine Done.one (.inl rfl) rfl (RV.tmp (v := str []) rfl) (List.Sublist.refl _) ?_
      exact ⟨x_7, m_8, [], (by simp only [MS.readFile, Int.toNat_natCast, true_or, or_true, false_or, or_false, MS.sizeOf, e_1, e_5, h_11, hat, h_12, if_true, if_false, Bool.false_eq_true, Bool.not_true, Bool.not_false]; (repeat (first | rw [if_pos (by omega)] | rw [if_neg (by omega)])); all_goals (first | rfl | simp only [if_true, if_false, Bool.false_eq_true, Bool.not_true, Bool.not_false, e_1, e_5, h_11, hat, h_12])), (k_6.mono (by omega) (by omega)), (by first | omega | (simp only [List.length_append, List.length_cons, List.length_nil, List.length_take, List.length_drop]; omega)), rfl, rfl⟩
    · skip
      refine JL.guardOn rfl rfl rfl (congrArg Value.bool (decide_eq_false h_12)) (JO.ofLO (LO.pure (PO.move (v := .int .i64 ((a : Nat) : Int)) (congrArg (Value.int .i64) hat)))) ?_
      rintro _ _ ⟨rfl, rfl⟩
      refine JL.guardOn rfl rfl rfl (congrArg Value.bool (decide_eq_false h_12)) (JO.ofLO (LO.pure (PO.move (v := .int .i64 n_9) rfl))) ?_
      rintro _ _ ⟨rfl, rfl⟩
      refine JL.guardOn rfl rfl rfl (congrArg Value.bool (decide_eq_false h_12)) (JO.ofLO (LO.pure (PO.geq rfl rfl))) ?_
      rintro _ _ ⟨rfl, rfl⟩
      refine JL.pure rfl (PO.pickF (v := .bool (decide (n_9 ≤ ((a : Nat) : Int)))) (congrArg Value.bool (decide_eq_false h_12)) rfl) ?_
      refine JL.nil ?_
      refine JQ.seq ?_
      by_cases h_13 : n_9 ≤ ((a : Nat) : Int)
      · skip
        refine JC.condT (congrArg Value.bool (decide_eq_true h_13)) ?_
        refine JC.seq ?_
        refine JC.region ?_
        refine JL.pure rfl (PO.assign (v := str []) rfl) ?_
        refine JL.nil ?_
        refine JQ.seq ?_
        refine JC.ret ?_
        refine JQ.thenRet ?_
        refine Done.one (.inl rfl) rfl (RV.tmp (v := str []) rfl) (List.Sublist.refl _) ?_
        exact ⟨x_7, m_8, [], (by simp only [MS.readFile, Int.toNat_natCast, true_or, or_true, false_or, or_false, MS.sizeOf, e_1, e_5, h_11, hat, h_12, h_13, if_true, if_false, Bool.false_eq_true, Bool.not_true, Bool.not_false]; (repeat (first | rw [if_pos (by omega)] | rw [if_neg (by omega)])); all_goals (first | rfl | simp only [if_true, if_false, Bool.false_eq_true, Bool.not_true, Bool.not_false, e_1, e_5, h_11, hat, h_12, h_13])), (k_6.mono (by omega) (by omega)), (by first | omega | (simp only [List.length_append, List.length_cons, List.length_nil, List.length_take, List.length_drop]; omega)), rfl, rfl⟩
      · skip
        refine JC.condF (congrArg Value.bool (decide_eq_false h_13)) ?_
        refine JC.skip ?_
        refine JQ.seq ?_
        refine JC.seq ?_
        refine JC.region ?_
        refine JL.pure rfl (PO.move (v := .int .i64 ((a : Nat) : Int)) (congrArg (Value.int .i64) hat)) ?_
        refine JL.pure rfl (PO.move (v := .int .i64 n) rfl) ?_
        refine JL.pure rfl (PO.move (v := .int .i64 n_9) rfl) ?_
        refine JL.pure rfl (PO.move (v := .int .i64 ((a : Nat) : Int)) (congrArg (Value.int .i64) hat)) ?_
        refine JL.pure rfl (PO.sub (c := n_9 - ((a : Nat) : Int)) rfl rfl (wr (by omega))) ?_
        refine JL.pure rfl (PO.min2 (c := min n (n_9 - ((a : Nat) : Int))) rfl rfl rfl) ?_
        refine JL.pure rfl (PO.add (c := ((a : Nat) : Int) + (min n (n_9 - ((a : Nat) : Int)))) rfl rfl (wr (by omega))) ?_
        refine JL.pure rfl (PO.assign (v := .int .i64 (((a : Nat) : Int) + (min n (n_9 - ((a : Nat) : Int))))) rfl) ?_
        refine JL.nil ?_
        refine JQ.seq ?_
        refine JC.seq ?_
        refine JC.region ?_
        refine JL.pure rfl (PO.assign (v := str []) rfl) ?_
        refine JL.nil ?_
        refine JQ.seq ?_
        refine JC.seq ?_
        refine JC.seq ?_
        refine JC.region ?_
        refine JL.pure rfl (PO.move (v := .int .i64 ((a : Nat) : Int)) (congrArg (Value.int .i64) hat)) ?_
        refine JL.pure rfl (PO.quoN (c := ((a / 8 : Nat) : Int)) rfl rfl (by omega) (by omega) (by omega) (wr (by omega))) ?_
        refine JL.pure rfl (PO.assign (v := .int .i64 ((a / 8 : Nat) : Int)) rfl) ?_
        refine JL.nil ?_
        refine JQ.seq ?_
        refine JC.block ?_
        obtain ⟨E, hE, hE2⟩ : ∃ E : Nat, ((a : Nat) : Int) + min n (n_9 - ((a : Nat) : Int)) = (E : Int) ∧ ((a : Nat) : Int) + (min n (n_9 - ((a : Nat) : Int))) = (E : Int) := ⟨(((a : Nat) : Int) + (min n (n_9 - ((a : Nat) : Int)))).toNat, by omega, by omega⟩
        have hE3 : a < E ∧ E ≤ 999 := by omega
        refine JC.loop (fun k_ e_ L_ => ∃ p_ : Nat, ∃ x1 : MA, ∃ mm : MS, ∃ o_ : Str, (mm.ok (S) (T + 2 + p_)) ∧ (a / 8 ≤ p_ ∧ p_ ≤ 125) ∧ (o_.length + 8 * (a / 8) ≤ 8 * p_) ∧ (MS.readL id a E (130 - p_) p_ mm o_ = MS.readL id a E (130 - a / 8) (a / 8) m_8 []) ∧ e_ 0 = .pointer (some ⟨p, 0, none⟩) ∧ e_ 1 = .int .i64 id ∧ e_ 2 = .int .i64 ((a : Nat) : Int) ∧ e_ 8 = str [] ∧ e_ 10 = .int .i64 ((E : Nat) : Int) ∧ e_ 11 = str o_ ∧ e_ 12 = .int .i64 ((p_ : Nat) : Int) ∧ L_ = [mb p x1 mm, rC x1.a0 x1.c0 mm.s, rS x1.a1 x1.c1 mm.r, rS x1.a2 x1.c2 mm.w] ∧ k_ = 126 - p_) _ ⟨(a / 8), x_7, m_8, [], (k_6.mono (by omega) (by omega)), (by omega), (by simp only [List.length_nil]; omega), rfl, rfl, rfl, (congrArg (Value.int .i64) hat), rfl, (congrArg (Value.int .i64) hE2), rfl, rfl, rfl, rfl⟩ ?_
        rintro _ e_14 _ ⟨p_, x1, mm, o_, hkmm, hp0, ho, hR, he_15, he_16, he_17, he_18, he_19, he_20, he_21, rfl, rfl⟩
        refine JC.seq ?_
        refine JC.seq ?_
        refine JC.region ?_
        refine JL.pure rfl (PO.move (v := .int .i64 ((p_ : Nat) : Int)) he_21) ?_
        refine JL.pure rfl (PO.mul (c := ((p_ * 8 : Nat) : Int)) rfl rfl (wr (by omega))) ?_
        refine JL.pure rfl (PO.move (v := .int .i64 ((E : Nat) : Int)) he_19) ?_
        refine JL.pure rfl (PO.lss rfl rfl) ?_
        refine JL.nil ?_
        refine JQ.seq ?_
        by_cases h_22 : ((p_ * 8 : Nat) : Int) < ((E : Nat) : Int)
        · skip
          refine JC.condT (congrArg Value.bool (decide_eq_true h_22)) ?_
          refine JC.skip ?_
          refine JQ.seq ?_
          refine JC.seq ?_
          refine JC.block ?_
          refine JC.seq ?_
          refine JC.region ?_
          refine JL.pure rfl (PO.move (v := .pointer (some ⟨p, 0, none⟩)) he_15) ?_
          refine JL.pure rfl (PO.move (v := .int .i64 id) he_16) ?_
          refine JL.pure rfl (PO.move (v := .int .i64 ((p_ : Nat) : Int)) he_21) ?_
          refine JL.op rfl (JO.call [0, 0, 0, 0] Tryz.call207 rfl (N_block p x1 mm hkmm (by omega) (by omega) id ((p_ : Nat) : Int) (by omega) (by omega)) rfl (fun w hw => hw.hex hlow hpre)) ?_
          rintro _ _ ⟨_, ⟨x_25, m_26, u_27, e_23, k_24, f_28, rfl, rfl⟩, rfl⟩
          refine JL.pure rfl (PO.assign (v := str u_27) rfl) ?_
          refine JL.nil ?_
          refine JQ.seq ?_
          refine JC.seq ?_
          refine JC.region ?_
          refine JL.pure rfl (PO.move (v := .int .i64 ((a : Nat) : Int)) he_17) ?_
          refine JL.pure rfl (PO.move (v := .int .i64 ((p_ : Nat) : Int)) he_21) ?_
          refine JL.pure rfl (PO.mul (c := ((p_ * 8 : Nat) : Int)) rfl rfl (wr (by omega))) ?_
          refine JL.pure rfl (PO.sub (c := ((a : Nat) : Int) - ((p_ * 8 : Nat) : Int)) rfl rfl (wr (by omega))) ?_
          refine JL.pure rfl (PO.max2 (c := ((a - p_ * 8 : Nat) : Int)) rfl rfl (by omega)) ?_
          refine JL.pure rfl (PO.assign (v := .int .i64 ((a - p_ * 8 : Nat) : Int)) rfl) ?_
          refine JL.nil ?_
          refine JQ.seq ?_
          refine JC.seq ?_
          refine JC.region ?_
          refine JL.pure rfl (PO.move (v := .int .i64 ((E : Nat) : Int)) he_19) ?_
          refine JL.pure rfl (PO.move (v := .int .i64 ((p_ : Nat) : Int)) he_21) ?_
          refine JL.pure rfl (PO.mul (c := ((p_ * 8 : Nat) : Int)) rfl rfl (wr (by omega))) ?_
          refine JL.pure rfl (PO.sub (c := ((E : Nat) : Int) - ((p_ * 8 : Nat) : Int)) rfl rfl (wr (by omega))) ?_
          refine JL.pure rfl (PO.move (v := str u_27) rfl) ?_
          refine JL.pure rfl (PO.lenS Tryz.underlying9 rfl) ?_
          refine JL.pure rfl (PO.min3 (c := ((min (min (E - p_ * 8) 8) u_27.length : Nat) : Int)) rfl rfl rfl (by omega)) ?_
          refine JL.pure rfl (PO.assign (v := .int .i64 ((min (min (E - p_ * 8) 8) u_27.length : Nat) : Int)) rfl) ?_
          refine JL.nil ?_
          refine JQ.seq ?_
          refine JC.seq ?_
          refine JC.region ?_
          refine JL.pure rfl (PO.move (v := .int .i64 ((a - p_ * 8 : Nat) : Int)) rfl) ?_
          refine JL.pure rfl (PO.move (v := .int .i64 ((min (min (E - p_ * 8) 8) u_27.length : Nat) : Int)) rfl) ?_
          refine JL.pure rfl (PO.lss rfl rfl) ?_
          refine JL.nil ?_
          refine JQ.seq ?_
          by_cases h_29 : ((a - p_ * 8 : Nat) : Int) < ((min (min (E - p_ * 8) 8) u_27.length : Nat) : Int)
          · skip
            have hp : piece u_27 (a - p_ * 8) (min (min (E - p_ * 8) 8) u_27.length) = (u_27.drop (a - p_ * 8)).take ((min (min (E - p_ * 8) 8) u_27.length) - (a - p_ * 8)) := rfl
            refine JC.condT (congrArg Value.bool (decide_eq_true h_29)) ?_
            refine JC.region ?_
            refine JL.pure rfl (PO.move (v := str o_) he_20) ?_
            refine JL.pure rfl (PO.move (v := str u_27) rfl) ?_
            refine JL.pure rfl (PO.move (v := .int .i64 ((a - p_ * 8 : Nat) : Int)) rfl) ?_
            refine JL.pure rfl (PO.move (v := .int .i64 ((min (min (E - p_ * 8) 8) u_27.length : Nat) : Int)) rfl) ?_
            refine JL.pure rfl (PO.sliceS (i := (a - p_ * 8)) (j := (min (min (E - p_ * 8) 8) u_27.length)) Tryz.underlying9 rfl rfl rfl (by omega) (by omega)) ?_
            refine JL.pure rfl (PO.addS rfl rfl (by (try simp only [List.length_append, List.length_cons, List.length_nil, List.length_drop, List.length_take]); omega)) ?_
            refine JL.pure rfl (PO.assign (v := str (o_ ++ ((u_27.drop (a - p_ * 8)).take ((min (min (E - p_ * 8) 8) u_27.length) - (a - p_ * 8))))) rfl) ?_
            refine JL.nil ?_
            refine JQ.blockN ?_
            refine JQ.seq ?_
            refine JC.region ?_
            refine JL.pure rfl (PO.move (v := .int .i64 ((p_ : Nat) : Int)) he_21) ?_
            refine JL.pure rfl (PO.add (c := ((p_ + 1 : Nat) : Int)) rfl rfl (wr (by omega))) ?_
            refine JL.pure rfl (PO.assign (v := .int .i64 ((p_ + 1 : Nat) : Int)) rfl) ?_
            refine JL.nil ?_
            refine JQ.pick [0, 0, 0, 0] (A := [mb p x_25 m_26, rC x_25.a0 x_25.c0 m_26.s, rS x_25.a1 x_25.c1 m_26.r, rS x_25.a2 x_25.c2 m_26.w]) rfl ?_
            refine JQ.again (126 - (p_ + 1)) (by omega) ⟨(p_ + 1), x_25, m_26, (o_ ++ ((u_27.drop (a - p_ * 8)).take ((min (min (E - p_ * 8) 8) u_27.length) - (a - p_ * 8)))), (k_24.mono (by omega) (by omega)), (by omega), (by first | omega | (simp only [List.length_append, List.length_take, List.length_drop]; omega)), (by rw [show 130 - p_ = (130 - (p_ + 1)) + 1 by omega, MS.readL, if_pos (by omega)] at hR; simp only [e_1, e_5, e_23, hp, List.append_nil] at hR; exact hR), he_15, he_16, he_17, he_18, he_19, rfl, rfl, rfl, rfl⟩
          · skip
            have hp : piece u_27 (a - p_ * 8) (min (min (E - p_ * 8) 8) u_27.length) = [] := piece_nil (by omega)
            refine JC.condF (congrArg Value.bool (decide_eq_false h_29)) ?_
            refine JC.skip ?_
            refine JQ.blockN ?_
            refine JQ.seq ?_
            refine JC.region ?_
            refine JL.pure rfl (PO.move (v := .int .i64 ((p_ : Nat) : Int)) he_21) ?_
            refine JL.pure rfl (PO.add (c := ((p_ + 1 : Nat) : Int)) rfl rfl (wr (by omega))) ?_
            refine JL.pure rfl (PO.assign (v := .int .i64 ((p_ + 1 : Nat) : Int)) rfl) ?_
            refine JL.nil ?_
            refine JQ.pick [0, 0, 0, 0] (A := [mb p x_25 m_26, rC x_25.a0 x_25.c0 m_26.s, rS x_25.a1 x_25.c1 m_26.r, rS x_25.a2 x_25.c2 m_26.w]) rfl ?_
            refine JQ.again (126 - (p_ + 1)) (by omega) ⟨(p_ + 1), x_25, m_26, o_, (k_24.mono (by omega) (by omega)), (by omega), (by first | omega | (simp only [List.length_append, List.length_take, List.length_drop]; omega)), (by rw [show 130 - p_ = (130 - (p_ + 1)) + 1 by omega, MS.readL, if_pos (by omega)] at hR; simp only [e_1, e_5, e_23, hp, List.append_nil] at hR; exact hR), he_15, he_16, he_17, he_18, he_19, he_20, rfl, rfl, rfl⟩
        · skip
          rw [MS.readL_stop (by omega)] at hR
          have hRE := hR.symm
          refine JC.condF (congrArg Value.bool (decide_eq_false h_22)) ?_
          refine JC.exit ?_
          refine JQ.thenExit ?_
          refine JQ.thenExit ?_
          refine JQ.blockE ?_
          refine JQ.seq ?_
          refine JC.seq ?_
          refine JC.region ?_
          refine JL.pure rfl (PO.move (v := str o_) he_20) ?_
          refine JL.pure rfl (PO.assign (v := str o_) rfl) ?_
          refine JL.nil ?_
          refine JQ.seq ?_
          refine JC.ret ?_
          refine Done.one (.inl rfl) rfl (RV.tmp (v := str o_) rfl) (List.Sublist.refl _) ?_
          exact ⟨x1, mm, o_, (by simp only [MS.readFile, Int.toNat_natCast, true_or, or_true, false_or, or_false, MS.sizeOf, e_1, e_5, h_11, hat, h_12, h_13, hE, h_22, hRE, if_true, if_false, Bool.false_eq_true, Bool.not_true, Bool.not_false]; (repeat (first | rw [if_pos (by omega)] | rw [if_neg (by omega)])); all_goals (first | rfl | simp only [if_true, if_false, Bool.false_eq_true, Bool.not_true, Bool.not_false, e_1, e_5, h_11, hat, h_12, h_13, hE, h_22, hRE])), (hkmm.mono (by omega) (by omega)), (by first | omega | (simp only [List.length_append, List.length_cons, List.length_nil, List.length_take, List.length_drop]; omega)), rfl, rfl⟩

theorem M_readFile (x : MA) (m : MS) {S T : Nat} (hk : m.ok S T) (hS : S ≤ 50000000) (hT : T ≤ 50000000) (id : Int) (at_ : Int) (n : Int) (hid : -9223372036854775808 ≤ id ∧ id ≤ 9223372036854775807) (hat_ : -9223372036854775808 ≤ at_ ∧ at_ ≤ 9223372036854775807) (hn : -9223372036854775808 ≤ n ∧ n ≤ 9223372036854775807) :
    Ct Tryz.prog 204 [mv x m, .int .i64 id, .int .i64 at_, .int .i64 n] (mr x m) (fun _ => True) (fun v A' => ∃ x' m' r0, MS.readFile m id at_ n = (m', r0) ∧ m'.ok (S) (T + 130) ∧ r0.length ≤ 1016 ∧ v = .tuple #[mv x' m', str r0] ∧ A' = mr x' m') := by
  refine Ct.intro Tryz.func204 rfl Tryz.ntmps204 (Nat.le_of_ble_eq_true rfl) fun w0 hpre => ?_
  refine JC.seq ?_
  refine JC.region ?_
  refine JL.op rfl (JO.box (cs := [.slice x.a0 m.s.length x.c0, .slice x.a1 m.r.length x.c1, .slice x.a2 m.w.length x.c2]) rfl rfl) ?_
  rintro _ _ ⟨b_1, rfl, rfl⟩
  refine JL.op rfl (JO.alloc (z := .agg #[.slice none 0 0, .slice none 0 0, .slice none 0 0]) (cs := [.slice none 0 0, .slice none 0 0, .slice none 0 0]) Tryz.zeroValue32 rfl) ?_
  rintro _ _ ⟨b_2, rfl, rfl⟩
  refine JL.pure rfl (PO.assign (v := str []) rfl) ?_
  refine JL.nil ?_
  refine JQ.seq ?_
  refine JC.seq ?_
  refine JC.region ?_
  refine JL.ld rfl (LO.loadK 1 (vs := [.slice x.a0 m.s.length x.c0, .slice x.a1 m.r.length x.c1, .slice x.a2 m.w.length x.c2]) rfl rfl Tryz.isAgg32 Tryz.sizeOf32 rfl rfl) ?_
  refine JL.pure rfl (PO.move (v := .int .i64 id) rfl) ?_
  refine JL.op rfl (JO.call [2, 2, 2] Tryz.call206 rfl (M_sizeFile x m hk (by omega) (by omega) id (by omega)) rfl (fun _ _ => trivial)) ?_
  rintro _ _ ⟨_, ⟨x_5, m_6, n_7, e_3, k_4, f_8, rfl, rfl⟩, rfl⟩
  refine JL.pure rfl (PO.move (v := .tuple #[mv x_5 m_6, .int .i64 n_7]) rfl) ?_
  refine JL.pure rfl (PO.extract (v := mv x_5 m_6) rfl rfl) ?_
  refine JL.pure rfl (PO.extract (v := .int .i64 n_7) rfl rfl) ?_
  refine JL.op rfl (JO.store 4 (vs := [.slice x_5.a0 m_6.s.length x_5.c0, .slice x_5.a1 m_6.r.length x_5.c1, .slice x_5.a2 m_6.w.length x_5.c2]) (cs' := [.slice x_5.a0 m_6.s.length x_5.c0, .slice x_5.a1 m_6.r.length x_5.c1, .slice x_5.a2 m_6.w.length x_5.c2]) rfl rfl rfl rfl Tryz.sizeOf32 rfl rfl (Nat.le_of_ble_eq_true rfl) rfl) ?_
  rintro _ _ rfl
  refine JL.pure rfl (PO.assign (v := .int .i64 n_7) rfl) ?_
  refine JL.nil ?_
  refine JQ.seq ?_
  refine JC.seq ?_
  refine JC.seq ?_
  refine JC.region ?_
  refine JL.pure rfl (PO.move (v := .int .i64 at_) rfl) ?_
  refine JL.pure rfl (PO.lss rfl rfl) ?_
  refine JL.pure rfl (PO.move (v := .bool (decide (at_ < 0))) rfl) ?_
  by_cases h_9 : at_ < 0
  · skip
    refine JL.guardOff (b := true) rfl rfl rfl (congrArg Value.bool (decide_eq_true h_9)) ?_
    refine JL.guardOff (b := true) rfl rfl rfl (congrArg Value.bool (decide_eq_true h_9)) ?_
    refine JL.pure rfl (PO.pickT (v := .bool true) (congrArg Value.bool (decide_eq_true h_9)) rfl) ?_
    refine JL.pure rfl (PO.move (v := .bool true) rfl) ?_
    refine JL.guardOff (b := true) rfl rfl rfl (congrArg Value.bool rfl) ?_
    refine JL.guardOff (b := true) rfl rfl rfl (congrArg Value.bool rfl) ?_
    refine JL.guardOff (b := true) rfl rfl rfl (congrArg Value.bool rfl) ?_
    refine JL.pure rfl (PO.pickT (v := .bool true) (congrArg Value.bool rfl) rfl) ?_
    refine JL.nil ?_
    refine JQ.seq ?_
    refine JC.condT (congrArg Value.bool rfl) ?_
    refine JC.seq ?_
    refine JC.region ?_
    refine JL.ld rfl (LO.loadK 4 (vs := [.slice x_5.a0 m_6.s.length x_5.c0, .slice x_5.a1 m_6.r.length x_5.c1, .slice x_5.a2 m_6.w.length x_5.c2]) rfl rfl Tryz.isAgg32 Tryz.sizeOf32 rfl rfl) ?_
    refine JL.op rfl (JO.store 3 (vs := [.slice x_5.a0 m_6.s.length x_5.c0, .slice x_5.a1 m_6.r.length x_5.c1, .slice x_5.a2 m_6.w.length x_5.c2]) (cs' := [.slice x_5.a0 m_6.s.length x_5.c0, .slice x_5.a1 m_6.r.length x_5.c1, .slice x_5.a2 m_6.w.length x_5.c2]) rfl rfl rfl rfl Tryz.sizeOf32 rfl rfl (Nat.le_of_ble_eq_true rfl) rfl) ?_
    rintro _ _ rfl
    refine JL.pure rfl (PO.assign (v := str []) rfl) ?_
    refine JL.nil ?_
    refine JQ.seq ?_
    refine JC.ret ?_
    refine JQ.thenRet ?_
    refine Done.two (.inl rfl) rfl (RV.cell1 (LO.loadK 3 (vs := [.slice x_5.a0 m_6.s.length x_5.c0, .slice x_5.a1 m_6.r.length x_5.c1, .slice x_5.a2 m_6.w.length x_5.c2]) rfl rfl Tryz.isAgg32 Tryz.sizeOf32 rfl rfl) ⟨_, rfl⟩) (RV.tmp (v := str []) rfl) (List.sublist_append_left [rC x_5.a0 x_5.c0 m_6.s, rS x_5.a1 x_5.c1 m_6.r, rS x_5.a2 x_5.c2 m_6.w] [mb b_2 x_5 m_6, mb b_1 x_5 m_6]) ?_
    exact ⟨x_5, m_6, [], (by simp only [MS.readFile, Int.toNat_natCast, true_or, or_true, false_or, or_false, e_3, h_9, if_true, if_false, Bool.false_eq_true, Bool.not_true, Bool.not_false]; (repeat (first | rw [if_pos (by omega)] | rw [if_neg (by omega)])); all_goals (first | rfl | simp only [if_true, if_false, Bool.false_eq_true, Bool.not_true, Bool.not_false, e_3, h_9])), (k_4.mono (by omega) (by omega)), (by first | omega | (simp only [List.length_append, List.length_cons, List.length_nil, List.length_take, List.length_drop]; omega)), rfl, rfl⟩
  · skip
    obtain ⟨a, hat⟩ : ∃ a : Nat, at_ = ((a : Nat) : Int) := ⟨at_.toNat, by omega⟩
    refine JL.guardOn rfl rfl rfl (congrArg Value.bool (decide_eq_false h_9)) (JO.ofLO (LO.pure (PO.move (v := .int .i64 n) rfl))) ?_
    rintro _ _ ⟨rfl, rfl⟩
    refine JL.guardOn rfl rfl rfl (congrArg Value.bool (decide_eq_false h_9)) (JO.ofLO (LO.pure (PO.lss rfl rfl))) ?_
    rintro _ _ ⟨rfl, rfl⟩
    refine JL.pure rfl (PO.pickF (v := .bool (decide (n < 1))) (congrArg Value.bool (decide_eq_false h_9)) rfl) ?_
    refine JL.pure rfl (PO.move (v := .bool (decide (n < 1))) rfl) ?_
    by_cases h_10 : n < 1
    · skip
      refine JL.guardOff (b := true) rfl rfl rfl (congrArg Value.bool (decide_eq_true h_10)) ?_
      refine JL.guardOff (b := true) rfl rfl rfl (congrArg Value.bool (decide_eq_true h_10)) ?_
      refine JL.guardOff (b := true) rfl rfl rfl (congrArg Value.bool (decide_eq_true h_10)) ?_
      refine JL.pure rfl (PO.pickT (v := .bool true) (congrArg Value.bool (decide_eq_true h_10)) rfl) ?_
      refine JL.nil ?_
      refine JQ.seq ?_
      refine JC.condT (congrArg Value.bool rfl) ?_
      refine JC.seq ?_
      refine JC.region ?_
      refine JL.ld rfl (LO.loadK 4 (vs := [.slice x_5.a0 m_6.s.length x_5.c0, .slice x_5.a1 m_6.r.length x_5.c1, .slice x_5.a2 m_6.w.length x_5.c2]) rfl rfl Tryz.isAgg32 Tryz.sizeOf32 rfl rfl) ?_
      refine JL.op rfl (JO.store 3 (vs := [.slice x_5.a0 m_6.s.length x_5.c0, .slice x_5.a1 m_6.r.length x_5.c1, .slice x_5.a2 m_6.w.length x_5.c2]) (cs' := [.slice x_5.a0 m_6.s.length x_5.c0, .slice x_5.a1 m_6.r.length x_5.c1, .slice x_5.a2 m_6.w.length x_5.c2]) rfl rfl rfl rfl Tryz.sizeOf32 rfl rfl (Nat.le_of_ble_eq_true rfl) rfl) ?_
      rintro _ _ rfl
      refine JL.pure rfl (PO.assign (v := str []) rfl) ?_
      refine JL.nil ?_
      refine JQ.seq ?_
      refine JC.ret ?_
      refine JQ.thenRet ?_
      refine Done.two (.inl rfl) rfl (RV.cell1 (LO.loadK 3 (vs := [.slice x_5.a0 m_6.s.length x_5.c0, .slice x_5.a1 m_6.r.length x_5.c1, .slice x_5.a2 m_6.w.length x_5.c2]) rfl rfl Tryz.isAgg32 Tryz.sizeOf32 rfl rfl) ⟨_, rfl⟩) (RV.tmp (v := str []) rfl) (List.sublist_append_left [rC x_5.a0 x_5.c0 m_6.s, rS x_5.a1 x_5.c1 m_6.r, rS x_5.a2 x_5.c2 m_6.w] [mb b_2 x_5 m_6, mb b_1 x_5 m_6]) ?_
      exact ⟨x_5, m_6, [], (by simp only [MS.readFile, Int.toNat_natCast, true_or, or_true, false_or, or_false, e_3, h_9, hat, h_10, if_true, if_false, Bool.false_eq_true, Bool.not_true, Bool.not_false]; (repeat (first | rw [if_pos (by omega)] | rw [if_neg (by omega)])); all_goals (first | rfl | simp only [if_true, if_false, Bool.false_eq_true, Bool.not_true, Bool.not_false, e_3, h_9, hat, h_10])), (k_4.mono (by omega) (by omega)), (by first | omega | (simp only [List.length_append, List.length_cons, List.length_nil, List.length_take, List.length_drop]; omega)), rfl, rfl⟩
    · skip
      refine JL.guardOn rfl rfl rfl (congrArg Value.bool (decide_eq_false h_10)) (JO.ofLO (LO.pure (PO.move (v := .int .i64 ((a : Nat) : Int)) (congrArg (Value.int .i64) hat)))) ?_
      rintro _ _ ⟨rfl, rfl⟩
      refine JL.guardOn rfl rfl rfl (congrArg Value.bool (decide_eq_false h_10)) (JO.ofLO (LO.pure (PO.move (v := .int .i64 n_7) rfl))) ?_
      rintro _ _ ⟨rfl, rfl⟩
      refine JL.guardOn rfl rfl rfl (congrArg Value.bool (decide_eq_false h_10)) (JO.ofLO (LO.pure (PO.geq rfl rfl))) ?_
      rintro _ _ ⟨rfl, rfl⟩
      refine JL.pure rfl (PO.pickF (v := .bool (decide (n_7 ≤ ((a : Nat) : Int)))) (congrArg Value.bool (decide_eq_false h_10)) rfl) ?_
      refine JL.nil ?_
      refine JQ.seq ?_
      by_cases h_11 : n_7 ≤ ((a : Nat) : Int)
      · skip
        refine JC.condT (congrArg Value.bool (decide_eq_true h_11)) ?_
        refine JC.seq ?_
        refine JC.region ?_
        refine JL.ld rfl (LO.loadK 4 (vs := [.slice x_5.a0 m_6.s.length x_5.c0, .slice x_5.a1 m_6.r.length x_5.c1, .slice x_5.a2 m_6.w.length x_5.c2]) rfl rfl Tryz.isAgg32 Tryz.sizeOf32 rfl rfl) ?_
        refine JL.op rfl (JO.store 3 (vs := [.slice x_5.a0 m_6.s.length x_5.c0, .slice x_5.a1 m_6.r.length x_5.c1, .slice x_5.a2 m_6.w.length x_5.c2]) (cs' := [.slice x_5.a0 m_6.s.length x_5.c0, .slice x_5.a1 m_6.r.length x_5.c1, .slice x_5.a2 m_6.w.length x_5.c2]) rfl rfl rfl rfl Tryz.sizeOf32 rfl rfl (Nat.le_of_ble_eq_true rfl) rfl) ?_
        rintro _ _ rfl
        refine JL.pure rfl (PO.assign (v := str []) rfl) ?_
        refine JL.nil ?_
        refine JQ.seq ?_
        refine JC.ret ?_
        refine JQ.thenRet ?_
        refine Done.two (.inl rfl) rfl (RV.cell1 (LO.loadK 3 (vs := [.slice x_5.a0 m_6.s.length x_5.c0, .slice x_5.a1 m_6.r.length x_5.c1, .slice x_5.a2 m_6.w.length x_5.c2]) rfl rfl Tryz.isAgg32 Tryz.sizeOf32 rfl rfl) ⟨_, rfl⟩) (RV.tmp (v := str []) rfl) (List.sublist_append_left [rC x_5.a0 x_5.c0 m_6.s, rS x_5.a1 x_5.c1 m_6.r, rS x_5.a2 x_5.c2 m_6.w] [mb b_2 x_5 m_6, mb b_1 x_5 m_6]) ?_
        exact ⟨x_5, m_6, [], (by simp only [MS.readFile, Int.toNat_natCast, true_or, or_true, false_or, or_false, e_3, h_9, hat, h_10, h_11, if_true, if_false, Bool.false_eq_true, Bool.not_true, Bool.not_false]; (repeat (first | rw [if_pos (by omega)] | rw [if_neg (by omega)])); all_goals (first | rfl | simp only [if_true, if_false, Bool.false_eq_true, Bool.not_true, Bool.not_false, e_3, h_9, hat, h_10, h_11])), (k_4.mono (by omega) (by omega)), (by first | omega | (simp only [List.length_append, List.length_cons, List.length_nil, List.length_take, List.length_drop]; omega)), rfl, rfl⟩
      · skip
        refine JC.condF (congrArg Value.bool (decide_eq_false h_11)) ?_
        refine JC.skip ?_
        refine JQ.seq ?_
        refine JC.seq ?_
        refine JC.region ?_
        refine JL.pure rfl (PO.move (v := .int .i64 n_7) rfl) ?_
        refine JL.pure rfl (PO.assign (v := .int .i64 n_7) rfl) ?_
        refine JL.nil ?_
        refine JQ.seq ?_
        refine JC.seq ?_
        refine JC.cut (fun e_ L_ => ∃ E : Nat, (((a : Nat) : Int) + min n (n_7 - ((a : Nat) : Int)) = (E : Int)) ∧ (a < E ∧ E ≤ 999) ∧ e_ 1 = .int .i64 id ∧ e_ 2 = .int .i64 ((a : Nat) : Int) ∧ e_ 4 = .pointer (some ⟨b_1, 0, none⟩) ∧ e_ 8 = .pointer (some ⟨b_2, 0, none⟩) ∧ e_ 9 = str [] ∧ e_ 11 = .int .i64 ((E : Nat) : Int) ∧ L_ = [rC x_5.a0 x_5.c0 m_6.s, rS x_5.a1 x_5.c1 m_6.r, rS x_5.a2 x_5.c2 m_6.w, bk b_2 32 [.slice none 0 0, .slice none 0 0, .slice none 0 0], mb b_1 x_5 m_6]) ?_ ?_
        · skip
          refine JC.seq ?_
          refine JC.region ?_
          refine JL.pure rfl (PO.move (v := .int .i64 n) rfl) ?_
          refine JL.pure rfl (PO.move (v := .int .i64 n_7) rfl) ?_
          refine JL.pure rfl (PO.move (v := .int .i64 ((a : Nat) : Int)) (congrArg (Value.int .i64) hat)) ?_
          refine JL.pure rfl (PO.sub (c := n_7 - ((a : Nat) : Int)) rfl rfl (wr (by omega))) ?_
          refine JL.pure rfl (PO.lss rfl rfl) ?_
          refine JL.nil ?_
          refine JQ.seq ?_
          by_cases h_12 : n < (n_7 - ((a : Nat) : Int))
          · skip
            refine JC.condT (congrArg Value.bool (decide_eq_true h_12)) ?_
            refine JC.region ?_
            refine JL.pure rfl (PO.move (v := .int .i64 ((a : Nat) : Int)) (congrArg (Value.int .i64) hat)) ?_
            refine JL.pure rfl (PO.move (v := .int .i64 n) rfl) ?_
            refine JL.pure rfl (PO.add (c := ((a : Nat) : Int) + n) rfl rfl (wr (by omega))) ?_
            refine JL.pure rfl (PO.assign (v := .int .i64 (((a : Nat) : Int) + n)) rfl) ?_
            refine JL.nil ?_
            refine JQ.pick [0, 0, 0, 0, 0] (A := [rC x_5.a0 x_5.c0 m_6.s, rS x_5.a1 x_5.c1 m_6.r, rS x_5.a2 x_5.c2 m_6.w, bk b_2 32 [.slice none 0 0, .slice none 0 0, .slice none 0 0], mb b_1 x_5 m_6]) rfl ?_
            exact JQ.cut ⟨(((a : Nat) : Int) + n).toNat, (by omega), (by omega), rfl, (congrArg (Value.int .i64) hat), rfl, rfl, rfl, (congrArg (Value.int .i64) (Int.toNat_of_nonneg (by omega)).symm), rfl⟩
          · skip
            refine JC.condF (congrArg Value.bool (decide_eq_false h_12)) ?_
            refine JC.skip ?_
            refine JQ.pick [0, 0, 0, 0, 0] (A := [rC x_5.a0 x_5.c0 m_6.s, rS x_5.a1 x_5.c1 m_6.r, rS x_5.a2 x_5.c2 m_6.w, bk b_2 32 [.slice none 0 0, .slice none 0 0, .slice none 0 0], mb b_1 x_5 m_6]) rfl ?_
            exact JQ.cut ⟨(n_7).toNat, (by omega), (by omega), rfl, (congrArg (Value.int .i64) hat), rfl, rfl, rfl, (congrArg (Value.int .i64) (Int.toNat_of_nonneg (by omega)).symm), rfl⟩
        · skip
          rintro e_13 _ ⟨E, hE, hE3, he_14, he_15, he_16, he_17, he_18, he_19, rfl⟩
          refine JQ.seq ?_
          refine JC.seq ?_
          refine JC.region ?_
          refine JL.op rfl (JO.buildSlice (ps := []) (cur := #[]) Tryz.underlying44 Tryz.sizeOf5 Tryz.zeroValue5 rfl (by kernel_rfl) (by decide) (by decide)) ?_
          rintro _ _ ⟨a_20, rfl, rfl⟩
          refine JL.pure rfl (PO.assign (v := .slice a_20 0 0) rfl) ?_
          refine JL.nil ?_
          refine JQ.seq ?_
          refine JC.seq ?_
          refine JC.seq ?_
          refine JC.region ?_
          refine JL.pure rfl (PO.move (v := .int .i64 ((a : Nat) : Int)) he_15) ?_
          refine JL.pure rfl (PO.quoN (c := ((a / 8 : Nat) : Int)) rfl rfl (by omega) (by omega) (by omega) (wr (by omega))) ?_
          refine JL.pure rfl (PO.assign (v := .int .i64 ((a / 8 : Nat) : Int)) rfl) ?_
          refine JL.nil ?_
          refine JQ.seq ?_
          refine JC.block ?_
          refine JC.loop (fun k_ e_ L_ => ∃ p_ : Nat, ∃ x1 : MA, ∃ mm : MS, ∃ o_a : Option Addr, ∃ o_c : Nat, ∃ o_n : Nat, ∃ o_ : Str, (mm.ok (S) (T + 2 + p_)) ∧ (o_.length = o_n) ∧ (a / 8 ≤ p_ ∧ p_ ≤ 125) ∧ (o_.length + 8 * (a / 8) ≤ 8 * p_) ∧ (MS.readL id a E (130 - p_) p_ mm o_ = MS.readL id a E (130 - a / 8) (a / 8) m_6 []) ∧ e_ 1 = .int .i64 id ∧ e_ 2 = .int .i64 ((a : Nat) : Int) ∧ e_ 4 = .pointer (some ⟨b_1, 0, none⟩) ∧ e_ 8 = .pointer (some ⟨b_2, 0, none⟩) ∧ e_ 9 = str [] ∧ e_ 11 = .int .i64 ((E : Nat) : Int) ∧ e_ 12 = .slice o_a o_n o_c ∧ e_ 13 = .int .i64 ((p_ : Nat) : Int) ∧ L_ = [Res.row (.slice o_a o_n o_c) 5 1 o_n (o_.map encB), rC x1.a0 x1.c0 mm.s, rS x1.a1 x1.c1 mm.r, rS x1.a2 x1.c2 mm.w, bk b_2 32 [.slice none 0 0, .slice none 0 0, .slice none 0 0], mb b_1 x1 mm] ∧ k_ = 126 - p_) _ ⟨(a / 8), x_5, m_6, a_20, 0, 0, ([] : List UInt8), (k_4.mono (by omega) (by omega)), (by first | rfl | omega | (simp only [List.length_append, List.length_cons, List.length_nil, List.length_set]; omega) | simp), (by omega), (by simp only [List.length_nil]; omega), rfl, he_14, he_15, he_16, he_17, he_18, he_19, rfl, rfl, rfl, rfl⟩ ?_
          rintro _ e_21 _ ⟨p_, x1, mm, o_a, o_c, o_n, o_, hkmm, ho_n, hp0, ho, hR, he_22, he_23, he_24, he_25, he_26, he_27, he_28, he_29, rfl, rfl⟩
          refine JC.seq ?_
          refine JC.seq ?_
          refine JC.region ?_
          refine JL.pure rfl (PO.move (v := .int .i64 ((p_ : Nat) : Int)) he_29) ?_
          refine JL.pure rfl (PO.mul (c := ((p_ * 8 : Nat) : Int)) rfl rfl (wr (by omega))) ?_
          refine JL.pure rfl (PO.move (v := .int .i64 ((E : Nat) : Int)) he_27) ?_
          refine JL.pure rfl (PO.lss rfl rfl) ?_
          refine JL.nil ?_
          refine JQ.seq ?_
          by_cases h_30 : ((p_ * 8 : Nat) : Int) < ((E : Nat) : Int)
          · skip
            refine JC.condT (congrArg Value.bool (decide_eq_true h_30)) ?_
            refine JC.skip ?_
            refine JQ.seq ?_
            refine JC.seq ?_
            refine JC.block ?_
            refine JC.seq ?_
            refine JC.region ?_
            refine JL.pure rfl (PO.assign (v := str []) rfl) ?_
            refine JL.nil ?_
            refine JQ.seq ?_
            refine JC.seq ?_
            refine JC.region ?_
            refine JL.ld rfl (LO.loadK 5 (vs := [.slice x1.a0 mm.s.length x1.c0, .slice x1.a1 mm.r.length x1.c1, .slice x1.a2 mm.w.length x1.c2]) rfl he_24 Tryz.isAgg32 Tryz.sizeOf32 rfl rfl) ?_
            refine JL.pure rfl (PO.move (v := .int .i64 id) he_22) ?_
            refine JL.pure rfl (PO.move (v := .int .i64 ((p_ : Nat) : Int)) he_29) ?_
            refine JL.op rfl (JO.call [1, 1, 1] Tryz.call208 rfl (M_block x1 mm hkmm (by omega) (by omega) id ((p_ : Nat) : Int) (by omega) (by omega)) rfl (fun _ _ => trivial)) ?_
            rintro _ _ ⟨_, ⟨x_33, m_34, u_35, e_31, k_32, f_36, rfl, rfl⟩, rfl⟩
            refine JL.pure rfl (PO.move (v := .tuple #[mv x_33 m_34, str u_35]) rfl) ?_
            refine JL.pure rfl (PO.extract (v := mv x_33 m_34) rfl rfl) ?_
            refine JL.pure rfl (PO.extract (v := str u_35) rfl rfl) ?_
            refine JL.op rfl (JO.store 5 (vs := [.slice x_33.a0 m_34.s.length x_33.c0, .slice x_33.a1 m_34.r.length x_33.c1, .slice x_33.a2 m_34.w.length x_33.c2]) (cs' := [.slice x_33.a0 m_34.s.length x_33.c0, .slice x_33.a1 m_34.r.length x_33.c1, .slice x_33.a2 m_34.w.length x_33.c2]) rfl he_24 rfl rfl Tryz.sizeOf32 rfl rfl (Nat.le_of_ble_eq_true rfl) rfl) ?_
            rintro _ _ rfl
            refine JL.pure rfl (PO.assign (v := str u_35) rfl) ?_
            refine JL.nil ?_
            refine JQ.seq ?_
            refine JC.seq ?_
            refine JC.region ?_
            refine JL.pure rfl (PO.assign (v := .int .i64 0) rfl) ?_
            refine JL.nil ?_
            refine JQ.seq ?_
            refine JC.block ?_
            refine JC.loop (fun k_ e_ L_ => ∃ i_ : Nat, ∃ q_a : Option Addr, ∃ q_c : Nat, ∃ q_n : Nat, ∃ q_ : Str, (q_.length = q_n) ∧ (i_ ≤ 8 ∧ i_ ≤ u_35.length) ∧ (q_ = o_ ++ piece u_35 (a - p_ * 8) (min (E - p_ * 8) i_)) ∧ (q_.length ≤ o_.length + i_) ∧ e_ 1 = .int .i64 id ∧ e_ 2 = .int .i64 ((a : Nat) : Int) ∧ e_ 4 = .pointer (some ⟨b_1, 0, none⟩) ∧ e_ 8 = .pointer (some ⟨b_2, 0, none⟩) ∧ e_ 9 = str [] ∧ e_ 11 = .int .i64 ((E : Nat) : Int) ∧ e_ 12 = .slice q_a q_n q_c ∧ e_ 13 = .int .i64 ((p_ : Nat) : Int) ∧ e_ 14 = str u_35 ∧ e_ 15 = .int .i64 ((i_ : Nat) : Int) ∧ L_ = [rC x_33.a0 x_33.c0 m_34.s, rS x_33.a1 x_33.c1 m_34.r, rS x_33.a2 x_33.c2 m_34.w, Res.row (.slice q_a q_n q_c) 5 1 q_n (q_.map encB), bk b_2 32 [.slice none 0 0, .slice none 0 0, .slice none 0 0], mb b_1 x_33 m_34] ∧ k_ = 8 - i_) _ ⟨0, o_a, o_c, o_n, o_, (by first | rfl | omega | (simp only [List.length_append, List.length_cons, List.length_nil, List.length_set]; omega) | simp), (by omega), (by rw [piece_nil (by omega), List.append_nil]), (by omega), he_22, he_23, he_24, he_25, he_26, he_27, he_28, he_29, rfl, rfl, rfl, rfl⟩ ?_
            rintro _ e_37 _ ⟨i_, q_a, q_c, q_n, q_, hq_n, hi, hq, hql, he_38, he_39, he_40, he_41, he_42, he_43, he_44, he_45, he_46, he_47, rfl, rfl⟩
            refine JC.seq ?_
            refine JC.seq ?_
            refine JC.region ?_
            refine JL.pure rfl (PO.move (v := .int .i64 ((i_ : Nat) : Int)) he_47) ?_
            refine JL.pure rfl (PO.move (v := str u_35) he_46) ?_
            refine JL.pure rfl (PO.lenS Tryz.underlying9 rfl) ?_
            refine JL.pure rfl (PO.lss rfl rfl) ?_
            refine JL.pure rfl (PO.move (v := .bool (decide (((i_ : Nat) : Int) < (u_35.length : Int)))) rfl) ?_
            by_cases h_48 : ((i_ : Nat) : Int) < (u_35.length : Int)
            · skip
              refine JL.guardOn rfl rfl rfl (congrArg Value.bool (decide_eq_true h_48)) (JO.ofLO (LO.pure (PO.move (v := .int .i64 ((i_ : Nat) : Int)) he_47))) ?_
              rintro _ _ ⟨rfl, rfl⟩
              refine JL.guardOn rfl rfl rfl (congrArg Value.bool (decide_eq_true h_48)) (JO.ofLO (LO.pure (PO.lss rfl rfl))) ?_
              rintro _ _ ⟨rfl, rfl⟩
              refine JL.pure rfl (PO.pickT (v := .bool (decide (((i_ : Nat) : Int) < 8))) (congrArg Value.bool (decide_eq_true h_48)) rfl) ?_
              refine JL.nil ?_
              refine JQ.seq ?_
              by_cases h_49 : ((i_ : Nat) : Int) < 8
              · skip
                refine JC.condT (congrArg Value.bool (decide_eq_true h_49)) ?_
                refine JC.skip ?_
                refine JQ.seq ?_
                refine JC.seq ?_
                refine JC.block ?_
                refine JC.seq ?_
                refine JC.region ?_
                refine JL.pure rfl (PO.move (v := .int .i64 ((p_ : Nat) : Int)) he_45) ?_
                refine JL.pure rfl (PO.mul (c := ((p_ * 8 : Nat) : Int)) rfl rfl (wr (by omega))) ?_
                refine JL.pure rfl (PO.move (v := .int .i64 ((i_ : Nat) : Int)) he_47) ?_
                refine JL.pure rfl (PO.add (c := (((p_ * 8) + i_ : Nat) : Int)) rfl rfl (wr (by omega))) ?_
                refine JL.pure rfl (PO.assign (v := .int .i64 (((p_ * 8) + i_ : Nat) : Int)) rfl) ?_
                refine JL.nil ?_
                refine JQ.seq ?_
                refine JC.seq ?_
                refine JC.region ?_
                refine JL.pure rfl (PO.move (v := .int .i64 (((p_ * 8) + i_ : Nat) : Int)) rfl) ?_
                refine JL.pure rfl (PO.move (v := .int .i64 ((a : Nat) : Int)) he_39) ?_
                refine JL.pure rfl (PO.geq rfl rfl) ?_
                refine JL.pure rfl (PO.move (v := .bool (decide (((a : Nat) : Int) ≤ (((p_ * 8) + i_ : Nat) : Int)))) rfl) ?_
                by_cases h_50 : ((a : Nat) : Int) ≤ (((p_ * 8) + i_ : Nat) : Int)
                · skip
                  refine JL.guardOn rfl rfl rfl (congrArg Value.bool (decide_eq_true h_50)) (JO.ofLO (LO.pure (PO.move (v := .int .i64 (((p_ * 8) + i_ : Nat) : Int)) rfl))) ?_
                  rintro _ _ ⟨rfl, rfl⟩
                  refine JL.guardOn rfl rfl rfl (congrArg Value.bool (decide_eq_true h_50)) (JO.ofLO (LO.pure (PO.move (v := .int .i64 ((E : Nat) : Int)) he_43))) ?_
                  rintro _ _ ⟨rfl, rfl⟩
                  refine JL.guardOn rfl rfl rfl (congrArg Value.bool (decide_eq_true h_50)) (JO.ofLO (LO.pure (PO.lss rfl rfl))) ?_
                  rintro _ _ ⟨rfl, rfl⟩
                  refine JL.pure rfl (PO.pickT (v := .bool (decide ((((p_ * 8) + i_ : Nat) : Int) < ((E : Nat) : Int)))) (congrArg Value.bool (decide_eq_true h_50)) rfl) ?_
                  refine JL.nil ?_
                  refine JQ.seq ?_
                  by_cases h_51 : (((p_ * 8) + i_ : Nat) : Int) < ((E : Nat) : Int)
                  · skip
                    refine JC.condT (congrArg Value.bool (decide_eq_true h_51)) ?_
                    refine JC.region ?_
                    refine JL.pure rfl (PO.move (v := .slice q_a q_n q_c) he_44) ?_
                    refine JL.pure rfl (PO.move (v := str u_35) he_46) ?_
                    refine JL.pure rfl (PO.move (v := .int .i64 ((i_ : Nat) : Int)) he_47) ?_
                    refine JL.pure rfl (PO.indexS (i := i_) (c := u_35.getD i_ 0) Tryz.underlying9 rfl rfl (getD_some (by omega))) ?_
                    have hu_52 := UInt8.toNat_lt (u_35.getD i_ 0)
                    refine JL.op rfl (JO.buildSlice (ps := [(0, .int .u8 ((u_35.getD i_ 0).toNat : Int))]) (cur := #[.int .u8 ((u_35.getD i_ 0).toNat : Int)]) Tryz.underlying44 Tryz.sizeOf5 Tryz.zeroValue5 rfl (by kernel_rfl) (by decide) (by decide)) ?_
                    rintro _ _ ⟨a_53, rfl, rfl⟩
                    refine JL.op rfl (JO.append' 4 (q := 1) (news := ([u_35.getD i_ 0] : List UInt8).map encB) (n' := (q_ ++ ([u_35.getD i_ 0] : List UInt8)).length) (cs' := (q_ ++ ([u_35.getD i_ 0] : List UInt8)).map encB) rfl Tryz.underlying44 Tryz.underlying44 Tryz.typeInfo5 rfl (by' := 1) rfl rfl rfl rfl rfl (fun w hw => Src.sees (hw.see (i := 0) rfl) (oneB _)) (by (try simp only [List.length_append, List.length_cons, List.length_nil, List.length_take, List.length_drop]); omega) (by (try simp only [List.length_append, List.length_cons, List.length_nil, List.length_take, List.length_drop]); omega) (by simp only [List.length_append, List.length_take, List.length_drop, List.length_cons, List.length_nil] <;> first | rfl | omega) (by simp only [List.map_append])) ?_
                    rintro _ _ ⟨a_54, c_55, rfl, rfl⟩
                    refine JL.pure rfl (PO.assign (v := .slice a_54 ((q_ ++ ([u_35.getD i_ 0] : List UInt8)).length) c_55) rfl) ?_
                    refine JL.nil ?_
                    refine JQ.blockN ?_
                    refine JQ.seq ?_
                    refine JC.region ?_
                    refine JL.pure rfl (PO.move (v := .int .i64 ((i_ : Nat) : Int)) he_47) ?_
                    refine JL.pure rfl (PO.add (c := ((i_ + 1 : Nat) : Int)) rfl rfl (wr (by omega))) ?_
                    refine JL.pure rfl (PO.assign (v := .int .i64 ((i_ + 1 : Nat) : Int)) rfl) ?_
                    refine JL.nil ?_
                    refine JQ.pick [1, 1, 1, 1, 1, 1] (A := [rC x_33.a0 x_33.c0 m_34.s, rS x_33.a1 x_33.c1 m_34.r, rS x_33.a2 x_33.c2 m_34.w, Res.row (.slice a_54 ((q_ ++ ([u_35.getD i_ 0] : List UInt8)).length) c_55) 5 1 ((q_ ++ ([u_35.getD i_ 0] : List UInt8)).length) ((q_ ++ ([u_35.getD i_ 0] : List UInt8)).map encB), bk b_2 32 [.slice none 0 0, .slice none 0 0, .slice none 0 0], mb b_1 x_33 m_34]) rfl ?_
                    refine JQ.again (8 - (i_ + 1)) (by omega) ⟨(i_ + 1), a_54, c_55, ((q_ ++ ([u_35.getD i_ 0] : List UInt8)).length), (q_ ++ ([u_35.getD i_ 0] : List UInt8)), (by first | rfl | omega | (simp only [List.length_append, List.length_cons, List.length_nil, List.length_set]; omega) | simp), (by omega), (by rw [hq, List.append_assoc, piece_yes (by omega) (by omega) (by omega)]), (by first | omega | (simp only [List.length_append, List.length_cons, List.length_nil]; omega)), he_38, he_39, he_40, he_41, he_42, he_43, rfl, he_45, he_46, rfl, rfl, rfl⟩
                  · skip
                    refine JC.condF (congrArg Value.bool (decide_eq_false h_51)) ?_
                    refine JC.skip ?_
                    refine JQ.blockN ?_
                    refine JQ.seq ?_
                    refine JC.region ?_
                    refine JL.pure rfl (PO.move (v := .int .i64 ((i_ : Nat) : Int)) he_47) ?_
                    refine JL.pure rfl (PO.add (c := ((i_ + 1 : Nat) : Int)) rfl rfl (wr (by omega))) ?_
                    refine JL.pure rfl (PO.assign (v := .int .i64 ((i_ + 1 : Nat) : Int)) rfl) ?_
                    refine JL.nil ?_
                    refine JQ.pick [0, 0, 0, 0, 0, 0] (A := [rC x_33.a0 x_33.c0 m_34.s, rS x_33.a1 x_33.c1 m_34.r, rS x_33.a2 x_33.c2 m_34.w, Res.row (.slice q_a q_n q_c) 5 1 q_n (q_.map encB), bk b_2 32 [.slice none 0 0, .slice none 0 0, .slice none 0 0], mb b_1 x_33 m_34]) rfl ?_
                    refine JQ.again (8 - (i_ + 1)) (by omega) ⟨(i_ + 1), q_a, q_c, q_n, q_, (by first | rfl | omega | (simp only [List.length_append, List.length_cons, List.length_nil, List.length_set]; omega) | simp), (by omega), (by rw [hq, piece_no (by omega)]), (by first | omega | (simp only [List.length_append, List.length_cons, List.length_nil]; omega)), he_38, he_39, he_40, he_41, he_42, he_43, he_44, he_45, he_46, rfl, rfl, rfl⟩
                · skip
                  refine JL.guardOff (b := false) rfl rfl rfl (congrArg Value.bool (decide_eq_false h_50)) ?_
                  refine JL.guardOff (b := false) rfl rfl rfl (congrArg Value.bool (decide_eq_false h_50)) ?_
                  refine JL.guardOff (b := false) rfl rfl rfl (congrArg Value.bool (decide_eq_false h_50)) ?_
                  refine JL.pure rfl (PO.pickF (v := .bool false) (congrArg Value.bool (decide_eq_false h_50)) rfl) ?_
                  refine JL.nil ?_
                  refine JQ.seq ?_
                  refine JC.condF (congrArg Value.bool rfl) ?_
                  refine JC.skip ?_
                  refine JQ.blockN ?_
                  refine JQ.seq ?_
                  refine JC.region ?_
                  refine JL.pure rfl (PO.move (v := .int .i64 ((i_ : Nat) : Int)) he_47) ?_
                  refine JL.pure rfl (PO.add (c := ((i_ + 1 : Nat) : Int)) rfl rfl (wr (by omega))) ?_
                  refine JL.pure rfl (PO.assign (v := .int .i64 ((i_ + 1 : Nat) : Int)) rfl) ?_
                  refine JL.nil ?_
                  refine JQ.pick [0, 0, 0, 0, 0, 0] (A := [rC x_33.a0 x_33.c0 m_34.s, rS x_33.a1 x_33.c1 m_34.r, rS x_33.a2 x_33.c2 m_34.w, Res.row (.slice q_a q_n q_c) 5 1 q_n (q_.map encB), bk b_2 32 [.slice none 0 0, .slice none 0 0, .slice none 0 0], mb b_1 x_33 m_34]) rfl ?_
                  refine JQ.again (8 - (i_ + 1)) (by omega) ⟨(i_ + 1), q_a, q_c, q_n, q_, (by first | rfl | omega | (simp only [List.length_append, List.length_cons, List.length_nil, List.length_set]; omega) | simp), (by omega), (by rw [hq, piece_no (by omega)]), (by first | omega | (simp only [List.length_append, List.length_cons, List.length_nil]; omega)), he_38, he_39, he_40, he_41, he_42, he_43, he_44, he_45, he_46, rfl, rfl, rfl⟩
              · skip
                have ho2 : q_ = o_ ++ piece u_35 (a - p_ * 8) (min (min (E - p_ * 8) 8) u_35.length) := by rw [hq, show min (E - p_ * 8) i_ = min (min (E - p_ * 8) 8) u_35.length by omega]
                refine JC.condF (congrArg Value.bool (decide_eq_false h_49)) ?_
                refine JC.exit ?_
                refine JQ.thenExit ?_
                refine JQ.thenExit ?_
                refine JQ.blockE ?_
                refine JQ.blockN ?_
                refine JQ.seq ?_
                refine JC.region ?_
                refine JL.pure rfl (PO.move (v := .int .i64 ((p_ : Nat) : Int)) he_45) ?_
                refine JL.pure rfl (PO.add (c := ((p_ + 1 : Nat) : Int)) rfl rfl (wr (by omega))) ?_
                refine JL.pure rfl (PO.assign (v := .int .i64 ((p_ + 1 : Nat) : Int)) rfl) ?_
                refine JL.nil ?_
                refine JQ.pick [3, 0, 0, 0, 0, 0] (A := [Res.row (.slice q_a q_n q_c) 5 1 q_n (q_.map encB), rC x_33.a0 x_33.c0 m_34.s, rS x_33.a1 x_33.c1 m_34.r, rS x_33.a2 x_33.c2 m_34.w, bk b_2 32 [.slice none 0 0, .slice none 0 0, .slice none 0 0], mb b_1 x_33 m_34]) rfl ?_
                refine JQ.again (126 - (p_ + 1)) (by omega) ⟨(p_ + 1), x_33, m_34, q_a, q_c, q_n, q_, (k_32.mono (by omega) (by omega)), (by first | rfl | omega | (simp only [List.length_append, List.length_cons, List.length_nil, List.length_set]; omega) | simp), (by omega), (by omega), (by rw [show 130 - p_ = (130 - (p_ + 1)) + 1 by omega, MS.readL, if_pos (by omega)] at hR; simp only [e_3, e_31] at hR; rw [← ho2] at hR; exact hR), he_38, he_39, he_40, he_41, he_42, he_43, he_44, rfl, rfl, rfl⟩
            · skip
              have ho2 : q_ = o_ ++ piece u_35 (a - p_ * 8) (min (min (E - p_ * 8) 8) u_35.length) := by rw [hq, show min (E - p_ * 8) i_ = min (min (E - p_ * 8) 8) u_35.length by omega]
              refine JL.guardOff (b := false) rfl rfl rfl (congrArg Value.bool (decide_eq_false h_48)) ?_
              refine JL.guardOff (b := false) rfl rfl rfl (congrArg Value.bool (decide_eq_false h_48)) ?_
              refine JL.pure rfl (PO.pickF (v := .bool false) (congrArg Value.bool (decide_eq_false h_48)) rfl) ?_
              refine JL.nil ?_
              refine JQ.seq ?_
              refine JC.condF (congrArg Value.bool rfl) ?_
              refine JC.exit ?_
              refine JQ.thenExit ?_
              refine JQ.thenExit ?_
              refine JQ.blockE ?_
              refine JQ.blockN ?_
              refine JQ.seq ?_
              refine JC.region ?_
              refine JL.pure rfl (PO.move (v := .int .i64 ((p_ : Nat) : Int)) he_45) ?_
              refine JL.pure rfl (PO.add (c := ((p_ + 1 : Nat) : Int)) rfl rfl (wr (by omega))) ?_
              refine JL.pure rfl (PO.assign (v := .int .i64 ((p_ + 1 : Nat) : Int)) rfl) ?_
              refine JL.nil ?_
              refine JQ.pick [3, 0, 0, 0, 0, 0] (A := [Res.row (.slice q_a q_n q_c) 5 1 q_n (q_.map encB), rC x_33.a0 x_33.c0 m_34.s, rS x_33.a1 x_33.c1 m_34.r, rS x_33.a2 x_33.c2 m_34.w, bk b_2 32 [.slice none 0 0, .slice none 0 0, .slice none 0 0], mb b_1 x_33 m_34]) rfl ?_
              refine JQ.again (126 - (p_ + 1)) (by omega) ⟨(p_ + 1), x_33, m_34, q_a, q_c, q_n, q_, (k_32.mono (by omega) (by omega)), (by first | rfl | omega | (simp only [List.length_append, List.length_cons, List.length_nil, List.length_set]; omega) | simp), (by omega), (by omega), (by rw [show 130 - p_ = (130 - (p_ + 1)) + 1 by omega, MS.readL, if_pos (by omega)] at hR; simp only [e_3, e_31] at hR; rw [← ho2] at hR; exact hR), he_38, he_39, he_40, he_41, he_42, he_43, he_44, rfl, rfl, rfl⟩
          · skip
            rw [MS.readL_stop (by omega)] at hR
            have hRE := hR.symm
            refine JC.condF (congrArg Value.bool (decide_eq_false h_30)) ?_
            refine JC.exit ?_
            refine JQ.thenExit ?_
            refine JQ.thenExit ?_
            refine JQ.blockE ?_
            refine JQ.seq ?_
            refine JC.seq ?_
            refine JC.regionA [mb b_1 x1 mm] 4 mixed (by simp) ?_
            refine JA.take 0 rfl (by kernel_rfl) (NP.th NP.body) (by kernel_rfl) (by kernel_rfl) (by kernel_rfl) rfl (LO.loadK 0 (vs := [.slice x1.a0 mm.s.length x1.c0, .slice x1.a1 mm.r.length x1.c1, .slice x1.a2 mm.w.length x1.c2]) rfl he_24 Tryz.isAgg32 Tryz.sizeOf32 rfl rfl) ?_
            refine JA.takeP 1 rfl (by kernel_rfl) (NP.th NP.body) (by kernel_rfl) (by kernel_rfl) rfl (PO.move (v := .slice o_a o_n o_c) he_28) ?_
            refine JA.two (i := 2) (j := 3) (by kernel_rfl) ?_ ?_
            · skip
              refine JX.op rfl rfl (JO.ofLO (LO.toStr 0 o_ rfl Tryz.underlying44 Tryz.underlying5 Tryz.underlying9 rfl rfl)) ?_
              rintro _ _ ⟨rfl, rfl⟩
              refine ⟨(by simp), ?_⟩
              refine JA.one (i := 3) (by kernel_rfl) ?_
              refine JX.op rfl rfl (JO.store 4 (vs := [.slice x1.a0 mm.s.length x1.c0, .slice x1.a1 mm.r.length x1.c1, .slice x1.a2 mm.w.length x1.c2]) (cs' := [.slice x1.a0 mm.s.length x1.c0, .slice x1.a1 mm.r.length x1.c1, .slice x1.a2 mm.w.length x1.c2]) rfl he_25 rfl rfl Tryz.sizeOf32 rfl rfl (Nat.le_of_ble_eq_true rfl) rfl) ?_
              rintro _ _ rfl
              refine ⟨(by simp), ?_⟩
              refine JA.takeP 4 rfl (by kernel_rfl) (NP.th NP.body) (by kernel_rfl) (by kernel_rfl) rfl (PO.assign (v := str o_) rfl) ?_
              refine JA.done (by kernel_rfl) ?_
              refine JQ.seq ?_
              refine JC.ret ?_
              refine JQ.perm (pick_perm [1, 1, 1] (A := [rC x1.a0 x1.c0 mm.s, rS x1.a1 x1.c1 mm.r, rS x1.a2 x1.c2 mm.w]) (F := [Res.row (.slice o_a o_n o_c) 5 1 o_n (o_.map encB), mb b_2 x1 mm, mb b_1 x1 mm]) rfl).symm ?_
              refine Done.two (.inl rfl) rfl (RV.cell1 (LO.loadK 4 (vs := [.slice x1.a0 mm.s.length x1.c0, .slice x1.a1 mm.r.length x1.c1, .slice x1.a2 mm.w.length x1.c2]) rfl he_25 Tryz.isAgg32 Tryz.sizeOf32 rfl rfl) ⟨_, he_25⟩) (RV.tmp (v := str o_) rfl) (List.sublist_append_left [rC x1.a0 x1.c0 mm.s, rS x1.a1 x1.c1 mm.r, rS x1.a2 x1.c2 mm.w] [Res.row (.slice o_a o_n o_c) 5 1 o_n (o_.map encB), mb b_2 x1 mm, mb b_1 x1 mm]) ?_
              exact ⟨x1, mm, o_, (by simp only [MS.readFile, Int.toNat_natCast, true_or, or_true, false_or, or_false, e_3, h_9, hat, h_10, h_11, hE, h_30, hRE, if_true, if_false, Bool.false_eq_true, Bool.not_true, Bool.not_false]; (repeat (first | rw [if_pos (by omega)] | rw [if_neg (by omega)])); all_goals (first | rfl | simp only [if_true, if_false, Bool.false_eq_true, Bool.not_true, Bool.not_false, e_3, h_9, hat, h_10, h_11, hE, h_30, hRE])), (hkmm.mono (by omega) (by omega)), (by first | omega | (simp only [List.length_append, List.length_cons, List.length_nil, List.length_take, List.length_drop]; omega)), rfl, rfl⟩
            · skip
              refine JX.op rfl rfl (JO.store 4 (vs := [.slice x1.a0 mm.s.length x1.c0, .slice x1.a1 mm.r.length x1.c1, .slice x1.a2 mm.w.length x1.c2]) (cs' := [.slice x1.a0 mm.s.length x1.c0, .slice x1.a1 mm.r.length x1.c1, .slice x1.a2 mm.w.length x1.c2]) rfl he_25 rfl rfl Tryz.sizeOf32 rfl rfl (Nat.le_of_ble_eq_true rfl) rfl) ?_
              rintro _ _ rfl
              refine ⟨(by simp), ?_⟩
              refine JA.one (i := 2) (by kernel_rfl) ?_
              refine JX.op rfl rfl (JO.ofLO (LO.toStr 0 o_ rfl Tryz.underlying44 Tryz.underlying5 Tryz.underlying9 rfl rfl)) ?_
              rintro _ _ ⟨rfl, rfl⟩
              refine ⟨(by simp), ?_⟩
              refine JA.takeP 4 rfl (by kernel_rfl) (NP.th NP.body) (by kernel_rfl) (by kernel_rfl) rfl (PO.assign (v := str o_) rfl) ?_
              refine JA.done (by kernel_rfl) ?_
              refine JQ.seq ?_
              refine JC.ret ?_
              refine JQ.perm (pick_perm [1, 1, 1] (A := [rC x1.a0 x1.c0 mm.s, rS x1.a1 x1.c1 mm.r, rS x1.a2 x1.c2 mm.w]) (F := [Res.row (.slice o_a o_n o_c) 5 1 o_n (o_.map encB), mb b_2 x1 mm, mb b_1 x1 mm]) rfl).symm ?_
              refine Done.two (.inl rfl) rfl (RV.cell1 (LO.loadK 4 (vs := [.slice x1.a0 mm.s.length x1.c0, .slice x1.a1 mm.r.length x1.c1, .slice x1.a2 mm.w.length x1.c2]) rfl he_25 Tryz.isAgg32 Tryz.sizeOf32 rfl rfl) ⟨_, he_25⟩) (RV.tmp (v := str o_) rfl) (List.sublist_append_left [rC x1.a0 x1.c0 mm.s, rS x1.a1 x1.c1 mm.r, rS x1.a2 x1.c2 mm.w] [Res.row (.slice o_a o_n o_c) 5 1 o_n (o_.map encB), mb b_2 x1 mm, mb b_1 x1 mm]) ?_
              exact ⟨x1, mm, o_, (by simp only [MS.readFile, Int.toNat_natCast, true_or, or_true, false_or, or_false, e_3, h_9, hat, h_10, h_11, hE, h_30, hRE, if_true, if_false, Bool.false_eq_true, Bool.not_true, Bool.not_false]; (repeat (first | rw [if_pos (by omega)] | rw [if_neg (by omega)])); all_goals (first | rfl | simp only [if_true, if_false, Bool.false_eq_true, Bool.not_true, Bool.not_false, e_3, h_9, hat, h_10, h_11, hE, h_30, hRE])), (hkmm.mono (by omega) (by omega)), (by first | omega | (simp only [List.length_append, List.length_cons, List.length_nil, List.length_take, List.length_drop]; omega)), rfl, rfl⟩

theorem P_readFile (x : MA) (m : MS) {S T : Nat} (hk : m.ok S T) (hS : S ≤ 49000000) (hT : T ≤ 49000000) (id : Int) (at_ : Int) (n : Int) (hid : -9223372036854775808 ≤ id ∧ id ≤ 9223372036854775807) (hat_ : -9223372036854775808 ≤ at_ ∧ at_ ≤ 9223372036854775807) (hn : -9223372036854775808 ≤ n ∧ n ≤ 9223372036854775807) :
    Ct Tryz.prog 97 [mv x m, .int .i64 id, .int .i64 at_, .int .i64 n] ([]) (fun w => seesM w x m ∧ HexOk w) (fun v A' => ∃ x' m' r0, MS.readFile m id at_ n = (m', r0) ∧ m'.ok (S) (T + 130) ∧ r0.length ≤ 1016 ∧ v = .tuple #[mv x' m', str r0] ∧ A' = mr x' m') := by
  refine Ct.introL Tryz.func97 rfl Tryz.ntmps97 (Nat.le_of_ble_eq_true rfl) fun w0 hpre hlow => ?_
  have hs_x_a0 : Sees w0 _ _ _ _ := hpre.1.1
  have hs_x_a1 : Sees w0 _ _ _ _ := hpre.1.2.1
  have hs_x_a2 : Sees w0 _ _ _ _ := hpre.1.2.2
  refine JC.seq ?_
  refine JC.region ?_
  refine JL.op rfl (JO.box (cs := [.slice x.a0 m.s.length x.c0, .slice x.a1 m.r.length x.c1, .slice x.a2 m.w.length x.c2]) rfl rfl) ?_
  rintro _ _ ⟨b_1, rfl, rfl⟩
  refine JL.op rfl (JO.alloc (z := .agg #[.slice none 0 0, .slice none 0 0, .slice none 0 0]) (cs := [.slice none 0 0, .slice none 0 0, .slice none 0 0]) Tryz.zeroValue32 rfl) ?_
  rintro _ _ ⟨b_2, rfl, rfl⟩
  refine JL.pure rfl (PO.assign (v := str []) rfl) ?_
  refine JL.nil ?_
  refine JQ.seq ?_
  refine JC.seq ?_
  refine JC.region ?_
  refine JL.ld rfl (LO.loadK 1 (vs := [.slice x.a0 m.s.length x.c0, .slice x.a1 m.r.length x.c1, .slice x.a2 m.w.length x.c2]) rfl rfl Tryz.isAgg32 Tryz.sizeOf32 rfl rfl) ?_
  refine JL.op rfl (JO.call [] Tryz.call127 rfl (N_clone x m hk (by omega) (by omega)) rfl (fun w hw => ⟨hw.seeOut_ hs_x_a0 (fun _ _ => List.not_mem_nil), hw.seeOut_ hs_x_a1 (fun _ _ => List.not_mem_nil), hw.seeOut_ hs_x_a2 (fun _ _ => List.not_mem_nil)⟩)) ?_
  rintro _ _ ⟨_, ⟨x_5, m_6, rfl, k_4, rfl, rfl⟩, rfl⟩
  refine JL.op rfl (JO.store 4 (vs := [.slice x_5.a0 m.s.length x_5.c0, .slice x_5.a1 m.r.length x_5.c1, .slice x_5.a2 m.w.length x_5.c2]) (cs' := [.slice x_5.a0 m.s.length x_5.c0, .slice x_5.a1 m.r.length x_5.c1, .slice x_5.a2 m.w.length x_5.c2]) rfl rfl rfl rfl Tryz.sizeOf32 rfl rfl (Nat.le_of_ble_eq_true rfl) rfl) ?_
  rintro _ _ rfl
  refine JL.nil ?_
  refine JQ.seq ?_
  refine JC.seq ?_
  refine JC.region ?_
  refine JL.pure rfl (PO.move (v := .int .i64 id) rfl) ?_
  refine JL.pure rfl (PO.move (v := .int .i64 at_) rfl) ?_
  refine JL.pure rfl (PO.move (v := .int .i64 n) rfl) ?_
  refine JL.op rfl (JO.call [4, 0, 0, 0] Tryz.call203 rfl (N_readFile b_1 x_5 m k_4 (by omega) (by omega) id at_ n (by omega) (by omega) (by omega)) rfl (fun w hw => hw.hex hlow hpre.2)) ?_
  rintro _ _ ⟨_, ⟨x_9, m_10, u_11, e_7, k_8, f_12, rfl, rfl⟩, rfl⟩
  refine JL.pure rfl (PO.assign (v := str u_11) rfl) ?_
  refine JL.nil ?_
  refine JQ.seq ?_
  refine JC.seq ?_
  refine JC.region ?_
  refine JL.ld rfl (LO.loadK 0 (vs := [.slice x_9.a0 m_10.s.length x_9.c0, .slice x_9.a1 m_10.r.length x_9.c1, .slice x_9.a2 m_10.w.length x_9.c2]) rfl rfl Tryz.isAgg32 Tryz.sizeOf32 rfl rfl) ?_
  refine JL.pure rfl (PO.move (v := str u_11) rfl) ?_
  refine JL.op rfl (JO.store 4 (vs := [.slice x_9.a0 m_10.s.length x_9.c0, .slice x_9.a1 m_10.r.length x_9.c1, .slice x_9.a2 m_10.w.length x_9.c2]) (cs' := [.slice x_9.a0 m_10.s.length x_9.c0, .slice x_9.a1 m_10.r.length x_9.c1, .slice x_9.a2 m_10.w.length x_9.c2]) rfl rfl rfl rfl Tryz.sizeOf32 rfl rfl (Nat.le_of_ble_eq_true rfl) rfl) ?_
  rintro _ _ rfl
  refine JL.pure rfl (PO.assign (v := str u_11) rfl) ?_
  refine JL.nil ?_
  refine JQ.seq ?_
  refine JC.ret ?_
  refine JQ.perm (pick_perm [1, 1, 1] (A := [rC x_9.a0 x_9.c0 m_10.s, rS x_9.a1 x_9.c1 m_10.r, rS x_9.a2 x_9.c2 m_10.w]) (F := [mb b_1 x_9 m_10, mb b_2 x_9 m_10]) rfl).symm ?_
  refine Done.two (.inl rfl) rfl (RV.cell1 (LO.loadK 4 (vs := [.slice x_9.a0 m_10.s.length x_9.c0, .slice x_9.a1 m_10.r.length x_9.c1, .slice x_9.a2 m_10.w.length x_9.c2]) rfl rfl Tryz.isAgg32 Tryz.sizeOf32 rfl rfl) ⟨_, rfl⟩) (RV.tmp (v := str u_11) rfl) (List.sublist_append_left [rC x_9.a0 x_9.c0 m_10.s, rS x_9.a1 x_9.c1 m_10.r, rS x_9.a2 x_9.c2 m_10.w] [mb b_1 x_9 m_10, mb b_2 x_9 m_10]) ?_
  exact ⟨x_9, m_10, u_11, (by simp only [if_true, e_7, if_true, if_false, Bool.false_eq_true, Bool.not_true, Bool.not_false]; (repeat (first | rw [if_pos (by omega)] | rw [if_neg (by omega)])); all_goals (first | rfl | simp only [if_true, if_false, Bool.false_eq_true, Bool.not_true, Bool.not_false, e_7])), (k_8.mono (by omega) (by omega)), (by first | omega | (simp only [List.length_append, List.length_cons, List.length_nil, List.length_take, List.length_drop]; omega)), rfl, rfl⟩

theorem Q_readFile (x : MA) (m : MS) {S T : Nat} (hk : m.ok S T) (hS : S ≤ 49000000) (hT : T ≤ 49000000) (id : Int) (at_ : Int) (n : Int) (hid : -9223372036854775808 ≤ id ∧ id ≤ 9223372036854775807) (hat_ : -9223372036854775808 ≤ at_ ∧ at_ ≤ 9223372036854775807) (hn : -9223372036854775808 ≤ n ∧ n ≤ 9223372036854775807) :
    Ct Tryz.prog 99 [mv x m, .int .i64 id, .int .i64 at_, .int .i64 n] ([]) (fun w => seesM w x m) (fun v A' => ∃ x' m' r0, MS.readFile m id at_ n = (m', r0) ∧ m'.ok (S) (T + 130) ∧ r0.length ≤ 1016 ∧ v = .tuple #[mv x' m', str r0] ∧ A' = mr x' m') := by
  refine Ct.intro Tryz.func99 rfl Tryz.ntmps99 (Nat.le_of_ble_eq_true rfl) fun w0 hpre => ?_
  have hs_x_a0 : Sees w0 _ _ _ _ := hpre.1
  have hs_x_a1 : Sees w0 _ _ _ _ := hpre.2.1
  have hs_x_a2 : Sees w0 _ _ _ _ := hpre.2.2
  refine JC.seq ?_
  refine JC.region ?_
  refine JL.op rfl (JO.box (cs := [.slice x.a0 m.s.length x.c0, .slice x.a1 m.r.length x.c1, .slice x.a2 m.w.length x.c2]) rfl rfl) ?_
  rintro _ _ ⟨b_1, rfl, rfl⟩
  refine JL.op rfl (JO.alloc (z := .agg #[.slice none 0 0, .slice none 0 0, .slice none 0 0]) (cs := [.slice none 0 0, .slice none 0 0, .slice none 0 0]) Tryz.zeroValue32 rfl) ?_
  rintro _ _ ⟨b_2, rfl, rfl⟩
  refine JL.pure rfl (PO.assign (v := str []) rfl) ?_
  refine JL.nil ?_
  refine JQ.seq ?_
  refine JC.seq ?_
  refine JC.region ?_
  refine JL.ld rfl (LO.loadK 1 (vs := [.slice x.a0 m.s.length x.c0, .slice x.a1 m.r.length x.c1, .slice x.a2 m.w.length x.c2]) rfl rfl Tryz.isAgg32 Tryz.sizeOf32 rfl rfl) ?_
  refine JL.op rfl (JO.call [] Tryz.call124 rfl (N_copy x m hk (by omega) (by omega)) rfl (fun w hw => ⟨hw.seeOut_ hs_x_a0 (fun _ _ => List.not_mem_nil), hw.seeOut_ hs_x_a1 (fun _ _ => List.not_mem_nil), hw.seeOut_ hs_x_a2 (fun _ _ => List.not_mem_nil)⟩)) ?_
  rintro _ _ ⟨_, ⟨x_5, m_6, rfl, k_4, rfl, rfl⟩, rfl⟩
  refine JL.pure rfl (PO.move (v := .int .i64 id) rfl) ?_
  refine JL.pure rfl (PO.move (v := .int .i64 at_) rfl) ?_
  refine JL.pure rfl (PO.move (v := .int .i64 n) rfl) ?_
  refine JL.op rfl (JO.call [0, 0, 0] Tryz.call204 rfl (M_readFile x_5 m k_4 (by omega) (by omega) id at_ n (by omega) (by omega) (by omega)) rfl (fun _ _ => trivial)) ?_
  rintro _ _ ⟨_, ⟨x_9, m_10, u_11, e_7, k_8, f_12, rfl, rfl⟩, rfl⟩
  refine JL.pure rfl (PO.extract (v := mv x_9 m_10) rfl rfl) ?_
  refine JL.pure rfl (PO.extract (v := str u_11) rfl rfl) ?_
  refine JL.op rfl (JO.store 3 (vs := [.slice x_9.a0 m_10.s.length x_9.c0, .slice x_9.a1 m_10.r.length x_9.c1, .slice x_9.a2 m_10.w.length x_9.c2]) (cs' := [.slice x_9.a0 m_10.s.length x_9.c0, .slice x_9.a1 m_10.r.length x_9.c1, .slice x_9.a2 m_10.w.length x_9.c2]) rfl rfl rfl rfl Tryz.sizeOf32 rfl rfl (Nat.le_of_ble_eq_true rfl) rfl) ?_
  rintro _ _ rfl
  refine JL.pure rfl (PO.assign (v := str u_11) rfl) ?_
  refine JL.nil ?_
  refine JQ.seq ?_
  refine JC.ret ?_
  refine Done.two (.inl rfl) rfl (RV.cell1 (LO.loadK 3 (vs := [.slice x_9.a0 m_10.s.length x_9.c0, .slice x_9.a1 m_10.r.length x_9.c1, .slice x_9.a2 m_10.w.length x_9.c2]) rfl rfl Tryz.isAgg32 Tryz.sizeOf32 rfl rfl) ⟨_, rfl⟩) (RV.tmp (v := str u_11) rfl) (List.sublist_append_left [rC x_9.a0 x_9.c0 m_10.s, rS x_9.a1 x_9.c1 m_10.r, rS x_9.a2 x_9.c2 m_10.w] [mb b_2 x_9 m_10, mb b_1 x m]) ?_
  exact ⟨x_9, m_10, u_11, (by simp only [if_true, e_7, if_true, if_false, Bool.false_eq_true, Bool.not_true, Bool.not_false]; (repeat (first | rw [if_pos (by omega)] | rw [if_neg (by omega)])); all_goals (first | rfl | simp only [if_true, if_false, Bool.false_eq_true, Bool.not_true, Bool.not_false, e_7])), (k_8.mono (by omega) (by omega)), (by first | omega | (simp only [List.length_append, List.length_cons, List.length_nil, List.length_take, List.length_drop]; omega)), rfl, rfl⟩

theorem M_textOf (x : MA) (m : MS) {S T : Nat} (hk : m.ok S T) (hS : S ≤ 50000000) (hT : T ≤ 50000000) (id : Int) (hid : -9223372036854775808 ≤ id ∧ id ≤ 9223372036854775807) :
    Ct Tryz.prog 209 [mv x m, .int .i64 id] (mr x m) (fun _ => True) (fun v A' => ∃ x' m' r0, (fun m i => MS.readFile m i 0 999) m id = (m', r0) ∧ m'.ok (S) (T + 130) ∧ r0.length ≤ 1016 ∧ v = .tuple #[mv x' m', str r0] ∧ A' = mr x' m') := by
  refine Ct.intro Tryz.func209 rfl Tryz.ntmps209 (Nat.le_of_ble_eq_true rfl) fun w0 hpre => ?_
  refine JC.seq ?_
  refine JC.region ?_
  refine JL.op rfl (JO.box (cs := [.slice x.a0 m.s.length x.c0, .slice x.a1 m.r.length x.c1, .slice x.a2 m.w.length x.c2]) rfl rfl) ?_
  rintro _ _ ⟨b_1, rfl, rfl⟩
  refine JL.op rfl (JO.alloc (z := .agg #[.slice none 0 0, .slice none 0 0, .slice none 0 0]) (cs := [.slice none 0 0, .slice none 0 0, .slice none 0 0]) Tryz.zeroValue32 rfl) ?_
  rintro _ _ ⟨b_2, rfl, rfl⟩
  refine JL.pure rfl (PO.assign (v := str []) rfl) ?_
  refine JL.nil ?_
  refine JQ.seq ?_
  refine JC.seq ?_
  refine JC.region ?_
  refine JL.ld rfl (LO.loadK 1 (vs := [.slice x.a0 m.s.length x.c0, .slice x.a1 m.r.length x.c1, .slice x.a2 m.w.length x.c2]) rfl rfl Tryz.isAgg32 Tryz.sizeOf32 rfl rfl) ?_
  refine JL.pure rfl (PO.move (v := .int .i64 id) rfl) ?_
  refine JL.op rfl (JO.call [2, 2, 2] Tryz.call204 rfl (M_readFile x m hk (by omega) (by omega) id 0 999 (by omega) (by omega) (by omega)) rfl (fun _ _ => trivial)) ?_
  rintro _ _ ⟨_, ⟨x_5, m_6, u_7, e_3, k_4, f_8, rfl, rfl⟩, rfl⟩
  refine JL.pure rfl (PO.extract (v := mv x_5 m_6) rfl rfl) ?_
  refine JL.pure rfl (PO.extract (v := str u_7) rfl rfl) ?_
  refine JL.op rfl (JO.store 3 (vs := [.slice x_5.a0 m_6.s.length x_5.c0, .slice x_5.a1 m_6.r.length x_5.c1, .slice x_5.a2 m_6.w.length x_5.c2]) (cs' := [.slice x_5.a0 m_6.s.length x_5.c0, .slice x_5.a1 m_6.r.length x_5.c1, .slice x_5.a2 m_6.w.length x_5.c2]) rfl rfl rfl rfl Tryz.sizeOf32 rfl rfl (Nat.le_of_ble_eq_true rfl) rfl) ?_
  rintro _ _ rfl
  refine JL.pure rfl (PO.assign (v := str u_7) rfl) ?_
  refine JL.nil ?_
  refine JQ.seq ?_
  refine JC.ret ?_
  refine Done.two (.inl rfl) rfl (RV.cell1 (LO.loadK 3 (vs := [.slice x_5.a0 m_6.s.length x_5.c0, .slice x_5.a1 m_6.r.length x_5.c1, .slice x_5.a2 m_6.w.length x_5.c2]) rfl rfl Tryz.isAgg32 Tryz.sizeOf32 rfl rfl) ⟨_, rfl⟩) (RV.tmp (v := str u_7) rfl) (List.sublist_append_left [rC x_5.a0 x_5.c0 m_6.s, rS x_5.a1 x_5.c1 m_6.r, rS x_5.a2 x_5.c2 m_6.w] [mb b_2 x_5 m_6, mb b_1 x m]) ?_
  exact ⟨x_5, m_6, u_7, (by simp only [if_true, e_3, if_true, if_false, Bool.false_eq_true, Bool.not_true, Bool.not_false]; (repeat (first | rw [if_pos (by omega)] | rw [if_neg (by omega)])); all_goals (first | rfl | simp only [if_true, if_false, Bool.false_eq_true, Bool.not_true, Bool.not_false, e_3])), (k_4.mono (by omega) (by omega)), (by first | omega | (simp only [List.length_append, List.length_cons, List.length_nil, List.length_take, List.length_drop]; omega)), rfl, rfl⟩

theorem P_textOf (x : MA) (m : MS) {S T : Nat} (hk : m.ok S T) (hS : S ≤ 48000000) (hT : T ≤ 48000000) (id : Int) (hid : -9223372036854775808 ≤ id ∧ id ≤ 9223372036854775807) :
    Ct Tryz.prog 96 [mv x m, .int .i64 id] ([]) (fun w => seesM w x m ∧ HexOk w) (fun v A' => ∃ x' m' r0, (fun m i => MS.readFile m i 0 999) m id = (m', r0) ∧ m'.ok (S) (T + 130) ∧ r0.length ≤ 1016 ∧ v = .tuple #[mv x' m', str r0] ∧ A' = mr x' m') := by
  refine Ct.introL Tryz.func96 rfl Tryz.ntmps96 (Nat.le_of_ble_eq_true rfl) fun w0 hpre hlow => ?_
  have hs_x_a0 : Sees w0 _ _ _ _ := hpre.1.1
  have hs_x_a1 : Sees w0 _ _ _ _ := hpre.1.2.1
  have hs_x_a2 : Sees w0 _ _ _ _ := hpre.1.2.2
  refine JC.seq ?_
  refine JC.region ?_
  refine JL.op rfl (JO.box (cs := [.slice x.a0 m.s.length x.c0, .slice x.a1 m.r.length x.c1, .slice x.a2 m.w.length x.c2]) rfl rfl) ?_
  rintro _ _ ⟨b_1, rfl, rfl⟩
  refine JL.op rfl (JO.alloc (z := .agg #[.slice none 0 0, .slice none 0 0, .slice none 0 0]) (cs := [.slice none 0 0, .slice none 0 0, .slice none 0 0]) Tryz.zeroValue32 rfl) ?_
  rintro _ _ ⟨b_2, rfl, rfl⟩
  refine JL.pure rfl (PO.assign (v := str []) rfl) ?_
  refine JL.nil ?_
  refine JQ.seq ?_
  refine JC.seq ?_
  refine JC.region ?_
  refine JL.ld rfl (LO.loadK 1 (vs := [.slice x.a0 m.s.length x.c0, .slice x.a1 m.r.length x.c1, .slice x.a2 m.w.length x.c2]) rfl rfl Tryz.isAgg32 Tryz.sizeOf32 rfl rfl) ?_
  refine JL.pure rfl (PO.move (v := .int .i64 id) rfl) ?_
  refine JL.op rfl (JO.call [] Tryz.call97 rfl (P_readFile x m hk (by omega) (by omega) id 0 999 (by omega) (by omega) (by omega)) rfl (fun w hw => ⟨⟨hw.seeOut_ hs_x_a0 (fun _ _ => List.not_mem_nil), hw.seeOut_ hs_x_a1 (fun _ _ => List.not_mem_nil), hw.seeOut_ hs_x_a2 (fun _ _ => List.not_mem_nil)⟩, hw.hex hlow hpre.2⟩)) ?_
  rintro _ _ ⟨_, ⟨x_5, m_6, u_7, e_3, k_4, f_8, rfl, rfl⟩, rfl⟩
  refine JL.pure rfl (PO.extract (v := mv x_5 m_6) rfl rfl) ?_
  refine JL.pure rfl (PO.extract (v := str u_7) rfl rfl) ?_
  refine JL.op rfl (JO.store 3 (vs := [.slice x_5.a0 m_6.s.length x_5.c0, .slice x_5.a1 m_6.r.length x_5.c1, .slice x_5.a2 m_6.w.length x_5.c2]) (cs' := [.slice x_5.a0 m_6.s.length x_5.c0, .slice x_5.a1 m_6.r.length x_5.c1, .slice x_5.a2 m_6.w.length x_5.c2]) rfl rfl rfl rfl Tryz.sizeOf32 rfl rfl (Nat.le_of_ble_eq_true rfl) rfl) ?_
  rintro _ _ rfl
  refine JL.pure rfl (PO.assign (v := str u_7) rfl) ?_
  refine JL.nil ?_
  refine JQ.seq ?_
  refine JC.ret ?_
  refine Done.two (.inl rfl) rfl (RV.cell1 (LO.loadK 3 (vs := [.slice x_5.a0 m_6.s.length x_5.c0, .slice x_5.a1 m_6.r.length x_5.c1, .slice x_5.a2 m_6.w.length x_5.c2]) rfl rfl Tryz.isAgg32 Tryz.sizeOf32 rfl rfl) ⟨_, rfl⟩) (RV.tmp (v := str u_7) rfl) (List.sublist_append_left [rC x_5.a0 x_5.c0 m_6.s, rS x_5.a1 x_5.c1 m_6.r, rS x_5.a2 x_5.c2 m_6.w] [mb b_2 x_5 m_6, mb b_1 x m]) ?_
  exact ⟨x_5, m_6, u_7, (by simp only [if_true, e_3, if_true, if_false, Bool.false_eq_true, Bool.not_true, Bool.not_false]; (repeat (first | rw [if_pos (by omega)] | rw [if_neg (by omega)])); all_goals (first | rfl | simp only [if_true, if_false, Bool.false_eq_true, Bool.not_true, Bool.not_false, e_3])), (k_4.mono (by omega) (by omega)), (by first | omega | (simp only [List.length_append, List.length_cons, List.length_nil, List.length_take, List.length_drop]; omega)), rfl, rfl⟩

theorem Q_textOf (x : MA) (m : MS) {S T : Nat} (hk : m.ok S T) (hS : S ≤ 48000000) (hT : T ≤ 48000000) (id : Int) (hid : -9223372036854775808 ≤ id ∧ id ≤ 9223372036854775807) :
    Ct Tryz.prog 107 [mv x m, .int .i64 id] ([]) (fun w => seesM w x m) (fun v A' => ∃ x' m' r0, (fun m i => MS.readFile m i 0 999) m id = (m', r0) ∧ m'.ok (S) (T + 130) ∧ r0.length ≤ 1016 ∧ v = .tuple #[mv x' m', str r0] ∧ A' = mr x' m') := by
  refine Ct.intro Tryz.func107 rfl Tryz.ntmps107 (Nat.le_of_ble_eq_true rfl) fun w0 hpre => ?_
  have hs_x_a0 : Sees w0 _ _ _ _ := hpre.1
  have hs_x_a1 : Sees w0 _ _ _ _ := hpre.2.1
  have hs_x_a2 : Sees w0 _ _ _ _ := hpre.2.2
  refine JC.seq ?_
  refine JC.region ?_
  refine JL.op rfl (JO.box (cs := [.slice x.a0 m.s.length x.c0, .slice x.a1 m.r.length x.c1, .slice x.a2 m.w.length x.c2]) rfl rfl) ?_
  rintro _ _ ⟨b_1, rfl, rfl⟩
  refine JL.op rfl (JO.alloc (z := .agg #[.slice none 0 0, .slice none 0 0, .slice none 0 0]) (cs := [.slice none 0 0, .slice none 0 0, .slice none 0 0]) Tryz.zeroValue32 rfl) ?_
  rintro _ _ ⟨b_2, rfl, rfl⟩
  refine JL.pure rfl (PO.assign (v := str []) rfl) ?_
  refine JL.nil ?_
  refine JQ.seq ?_
  refine JC.seq ?_
  refine JC.region ?_
  refine JL.ld rfl (LO.loadK 1 (vs := [.slice x.a0 m.s.length x.c0, .slice x.a1 m.r.length x.c1, .slice x.a2 m.w.length x.c2]) rfl rfl Tryz.isAgg32 Tryz.sizeOf32 rfl rfl) ?_
  refine JL.op rfl (JO.call [] Tryz.call124 rfl (N_copy x m hk (by omega) (by omega)) rfl (fun w hw => ⟨hw.seeOut_ hs_x_a0 (fun _ _ => List.not_mem_nil), hw.seeOut_ hs_x_a1 (fun _ _ => List.not_mem_nil), hw.seeOut_ hs_x_a2 (fun _ _ => List.not_mem_nil)⟩)) ?_
  rintro _ _ ⟨_, ⟨x_5, m_6, rfl, k_4, rfl, rfl⟩, rfl⟩
  refine JL.pure rfl (PO.move (v := .int .i64 id) rfl) ?_
  refine JL.op rfl (JO.call [0, 0, 0] Tryz.call209 rfl (M_textOf x_5 m k_4 (by omega) (by omega) id (by omega)) rfl (fun _ _ => trivial)) ?_
  rintro _ _ ⟨_, ⟨x_9, m_10, u_11, e_7, k_8, f_12, rfl, rfl⟩, rfl⟩
  refine JL.pure rfl (PO.extract (v := mv x_9 m_10) rfl rfl) ?_
  refine JL.pure rfl (PO.extract (v := str u_11) rfl rfl) ?_
  refine JL.op rfl (JO.store 3 (vs := [.slice x_9.a0 m_10.s.length x_9.c0, .slice x_9.a1 m_10.r.length x_9.c1, .slice x_9.a2 m_10.w.length x_9.c2]) (cs' := [.slice x_9.a0 m_10.s.length x_9.c0, .slice x_9.a1 m_10.r.length x_9.c1, .slice x_9.a2 m_10.w.length x_9.c2]) rfl rfl rfl rfl Tryz.sizeOf32 rfl rfl (Nat.le_of_ble_eq_true rfl) rfl) ?_
  rintro _ _ rfl
  refine JL.pure rfl (PO.assign (v := str u_11) rfl) ?_
  refine JL.nil ?_
  refine JQ.seq ?_
  refine JC.ret ?_
  refine Done.two (.inl rfl) rfl (RV.cell1 (LO.loadK 3 (vs := [.slice x_9.a0 m_10.s.length x_9.c0, .slice x_9.a1 m_10.r.length x_9.c1, .slice x_9.a2 m_10.w.length x_9.c2]) rfl rfl Tryz.isAgg32 Tryz.sizeOf32 rfl rfl) ⟨_, rfl⟩) (RV.tmp (v := str u_11) rfl) (List.sublist_append_left [rC x_9.a0 x_9.c0 m_10.s, rS x_9.a1 x_9.c1 m_10.r, rS x_9.a2 x_9.c2 m_10.w] [mb b_2 x_9 m_10, mb b_1 x m]) ?_
  exact ⟨x_9, m_10, u_11, (by simp only [if_true, e_7, if_true, if_false, Bool.false_eq_true, Bool.not_true, Bool.not_false]; (repeat (first | rw [if_pos (by omega)] | rw [if_neg (by omega)])); all_goals (first | rfl | simp only [if_true, if_false, Bool.false_eq_true, Bool.not_true, Bool.not_false, e_7])), (k_8.mono (by omega) (by omega)), (by first | omega | (simp only [List.length_append, List.length_cons, List.length_nil, List.length_take, List.length_drop]; omega)), rfl, rfl⟩

theorem N_writeFile (p : Nat) (x : MA) (m : MS) {S T : Nat} (hk : m.ok S T) (hS : S ≤ 50000000) (hT : T ≤ 50000000) (id : Int) (at_ : Int) (text : Str) (hid : -9223372036854775808 ≤ id ∧ id ≤ 9223372036854775807) (hat_ : -9223372036854775808 ≤ at_ ∧ at_ ≤ 9223372036854775807) (htext : text.length ≤ 1000000000000) :
    Ct Tryz.prog 138 [.pointer (some ⟨p, 0, none⟩), .int .i64 id, .int .i64 at_, str text] (mb p x m :: mr x m) (fun w => HexOk w) (fun v A' => ∃ x' m' r0, MS.writeFile m id at_ text = (m', r0) ∧ m'.ok (S + 12) (T + 30) ∧ (0 ≤ r0 ∧ r0 ≤ 9) ∧ v = .int .i64 r0 ∧ A' = mb p x' m' :: mr x' m') := by
  refine Ct.introL Tryz.func138 rfl Tryz.ntmps138 (Nat.le_of_ble_eq_true rfl) fun w0 hpre hlow => ?_
  refine JC.seq ?_
  refine JC.region ?_
  refine JL.pure rfl (PO.assign (v := .int .i64 0) rfl) ?_
  refine JL.nil ?_
  refine JQ.seq ?_
  refine JC.seq ?_
  refine JC.region ?_
  refine JL.pure rfl (PO.move (v := .pointer (some ⟨p, 0, none⟩)) rfl) ?_
  refine JL.pure rfl (PO.move (v := .int .i64 id) rfl) ?_
  refine JL.op rfl (JO.call [] Tryz.call205 rfl (N_sizeKey id (by omega)) rfl (fun _ _ => trivial)) ?_
  rintro _ _ ⟨_, ⟨u_3, e_1, f_4, rfl, rfl⟩, rfl⟩
  refine JL.op rfl (JO.call [0, 0, 0, 0] Tryz.call170 rfl (N_num p x m hk (by omega) (by omega) u_3) rfl (fun _ _ => trivial)) ?_
  rintro _ _ ⟨_, ⟨x_7, m_8, n_9, e_5, k_6, f_10, rfl, rfl⟩, rfl⟩
  refine JL.pure rfl (PO.assign (v := .int .i64 n_9) rfl) ?_
  refine JL.nil ?_
  refine JQ.seq ?_
  refine JC.seq ?_
  refine JC.seq ?_
  refine JC.region ?_
  refine JL.pure rfl (PO.move (v := .int .i64 at_) rfl) ?_
  refine JL.pure rfl (PO.move (v := .int .i64 n_9) rfl) ?_
  refine JL.op rfl (JO.call [] Tryz.call143 rfl (C_within at_ 0 n_9) rfl (fun _ _ => trivial)) ?_
  rintro _ _ ⟨_, ⟨rfl, rfl⟩, rfl⟩
  refine JL.pure rfl (PO.not rfl) ?_
  refine JL.pure rfl (PO.move (v := .bool (!(decide (0 ≤ at_) && decide (at_ ≤ n_9)))) rfl) ?_
  rcases Bool.eq_false_or_eq_true (decide (0 ≤ at_) && decide (at_ ≤ n_9)) with h_11 | h_11
  · skip
    have h_11d := h_11
    simp only [Bool.and_eq_true, Bool.and_eq_false_iff, decide_eq_true_eq, decide_eq_false_iff_not] at h_11d
    obtain ⟨a, hat⟩ : ∃ a : Nat, at_ = ((a : Nat) : Int) := ⟨at_.toNat, by omega⟩
    refine JL.guardOn rfl rfl rfl (congrArg Value.bool (congrArg Bool.not h_11)) (JO.ofLO (LO.pure (PO.move (v := str text) rfl))) ?_
    rintro _ _ ⟨rfl, rfl⟩
    refine JL.guardOn rfl rfl rfl (congrArg Value.bool (congrArg Bool.not h_11)) (JO.ofLO (LO.pure (PO.eqlS rfl rfl))) ?_
    rintro _ _ ⟨rfl, rfl⟩
    refine JL.pure rfl (PO.pickF (v := .bool (decide (text = []))) (congrArg Value.bool (congrArg Bool.not h_11)) rfl) ?_
    refine JL.nil ?_
    refine JQ.seq ?_
    by_cases h_12 : text = []
    · skip
      have h_12l : text.length = 0 := by rw [h_12]; rfl
      refine JC.condT (congrArg Value.bool (decide_eq_true h_12)) ?_
      refine JC.seq ?_
      refine JC.region ?_
      refine JL.pure rfl (PO.assign (v := .int .i64 4) rfl) ?_
      refine JL.nil ?_
      refine JQ.seq ?_
      refine JC.ret ?_
      refine JQ.thenRet ?_
      refine Done.one (.inl rfl) rfl (RV.tmp (v := .int .i64 4) rfl) (List.Sublist.refl _) ?_
      exact ⟨x_7, m_8, 4, (by simp only [MS.writeFile, List.length_nil, Int.toNat_natCast, true_or, or_true, false_or, or_false, MS.sizeOf, e_1, e_5, h_11, hat, h_12, if_true, if_false, Bool.false_eq_true, Bool.not_true, Bool.not_false]; (repeat (first | rw [if_pos (by omega)] | rw [if_neg (by omega)])); all_goals (first | rfl | simp only [if_true, if_false, Bool.false_eq_true, Bool.not_true, Bool.not_false, e_1, e_5, h_11, hat, h_12])), (k_6.mono (by omega) (by omega)), (by first | omega | (simp only [List.length_append, List.length_cons, List.length_nil, List.length_take, List.length_drop]; omega)), rfl, rfl⟩
    · skip
      have h_12l := List.length_pos_iff.2 h_12
      refine JC.condF (congrArg Value.bool (decide_eq_false h_12)) ?_
      refine JC.skip ?_
      refine JQ.seq ?_
      refine JC.seq ?_
      refine JC.region ?_
      refine JL.pure rfl (PO.move (v := .int .i64 ((a : Nat) : Int)) (congrArg (Value.int .i64) hat)) ?_
      refine JL.pure rfl (PO.move (v := str text) rfl) ?_
      refine JL.pure rfl (PO.lenS Tryz.underlying9 rfl) ?_
      refine JL.pure rfl (PO.add (c := ((a + text.length : Nat) : Int)) rfl rfl (wr (by omega))) ?_
      refine JL.pure rfl (PO.assign (v := .int .i64 ((a + text.length : Nat) : Int)) rfl) ?_
      refine JL.nil ?_
      refine JQ.seq ?_
      refine JC.seq ?_
      refine JC.seq ?_
      refine JC.region ?_
      refine JL.pure rfl (PO.move (v := .int .i64 ((a + text.length : Nat) : Int)) rfl) ?_
      refine JL.pure rfl (PO.gtr rfl rfl) ?_
      refine JL.nil ?_
      refine JQ.seq ?_
      by_cases h_13 : 64 < ((a + text.length : Nat) : Int)
      · skip
        refine JC.condT (congrArg Value.bool (decide_eq_true h_13)) ?_
        refine JC.seq ?_
        refine JC.region ?_
        refine JL.pure rfl (PO.assign (v := .int .i64 3) rfl) ?_
        refine JL.nil ?_
        refine JQ.seq ?_
        refine JC.ret ?_
        refine JQ.thenRet ?_
        refine Done.one (.inl rfl) rfl (RV.tmp (v := .int .i64 3) rfl) (List.Sublist.refl _) ?_
        exact ⟨x_7, m_8, 3, (by simp only [MS.writeFile, List.length_nil, Int.toNat_natCast, true_or, or_true, false_or, or_false, MS.sizeOf, e_1, e_5, h_11, hat, h_12, h_13, if_true, if_false, Bool.false_eq_true, Bool.not_true, Bool.not_false]; (repeat (first | rw [if_pos (by omega)] | rw [if_neg (by omega)])); all_goals (first | rfl | simp only [if_true, if_false, Bool.false_eq_true, Bool.not_true, Bool.not_false, e_1, e_5, h_11, hat, h_12, h_13])), (k_6.mono (by omega) (by omega)), (by first | omega | (simp only [List.length_append, List.length_cons, List.length_nil, List.length_take, List.length_drop]; omega)), rfl, rfl⟩
      · skip
        refine JC.condF (congrArg Value.bool (decide_eq_false h_13)) ?_
        refine JC.skip ?_
        refine JQ.seq ?_
        refine JC.seq ?_
        refine JC.seq ?_
        refine JC.region ?_
        refine JL.pure rfl (PO.move (v := .int .i64 ((a : Nat) : Int)) (congrArg (Value.int .i64) hat)) ?_
        refine JL.pure rfl (PO.quoN (c := ((a / 8 : Nat) : Int)) rfl rfl (by omega) (by omega) (by omega) (wr (by omega))) ?_
        refine JL.pure rfl (PO.assign (v := .int .i64 ((a / 8 : Nat) : Int)) rfl) ?_
        refine JL.nil ?_
        refine JQ.seq ?_
        refine JC.block ?_
        refine JC.loop (fun k_ e_ L_ => ∃ p_ : Nat, ∃ x1 : MA, ∃ mm : MS, (mm.ok (S + p_) (T + 2 + 2 * p_)) ∧ (a / 8 ≤ p_ ∧ p_ ≤ 9) ∧ (MS.writeL id text a (a + text.length) (130 - p_) p_ mm = MS.writeL id text a (a + text.length) (130 - a / 8) (a / 8) m_8) ∧ e_ 0 = .pointer (some ⟨p, 0, none⟩) ∧ e_ 1 = .int .i64 id ∧ e_ 2 = .int .i64 ((a : Nat) : Int) ∧ e_ 3 = str text ∧ e_ 8 = .int .i64 0 ∧ e_ 9 = .int .i64 n_9 ∧ e_ 10 = .int .i64 ((a + text.length : Nat) : Int) ∧ e_ 11 = .int .i64 ((p_ : Nat) : Int) ∧ L_ = [mb p x1 mm, rC x1.a0 x1.c0 mm.s, rS x1.a1 x1.c1 mm.r, rS x1.a2 x1.c2 mm.w] ∧ k_ = 70 - p_) _ ⟨(a / 8), x_7, m_8, (k_6.mono (by omega) (by omega)), (by omega), rfl, rfl, rfl, (congrArg (Value.int .i64) hat), rfl, rfl, rfl, rfl, rfl, rfl, rfl⟩ ?_
        rintro _ e_14 _ ⟨p_, x1, mm, hkmm, hp0, hR, he_15, he_16, he_17, he_18, he_19, he_20, he_21, he_22, rfl, rfl⟩
        refine JC.seq ?_
        refine JC.seq ?_
        refine JC.region ?_
        refine JL.pure rfl (PO.move (v := .int .i64 ((p_ : Nat) : Int)) he_22) ?_
        refine JL.pure rfl (PO.mul (c := ((p_ * 8 : Nat) : Int)) rfl rfl (wr (by omega))) ?_
        refine JL.pure rfl (PO.move (v := .int .i64 ((a + text.length : Nat) : Int)) he_21) ?_
        refine JL.pure rfl (PO.lss rfl rfl) ?_
        refine JL.nil ?_
        refine JQ.seq ?_
        by_cases h_23 : ((p_ * 8 : Nat) : Int) < ((a + text.length : Nat) : Int)
        · skip
          refine JC.condT (congrArg Value.bool (decide_eq_true h_23)) ?_
          refine JC.skip ?_
          refine JQ.seq ?_
          refine JC.seq ?_
          refine JC.block ?_
          refine JC.seq ?_
          refine JC.region ?_
          refine JL.pure rfl (PO.move (v := .pointer (some ⟨p, 0, none⟩)) he_15) ?_
          refine JL.pure rfl (PO.move (v := .int .i64 id) he_16) ?_
          refine JL.pure rfl (PO.move (v := .int .i64 ((p_ : Nat) : Int)) he_22) ?_
          refine JL.op rfl (JO.call [0, 0, 0, 0] Tryz.call207 rfl (N_block p x1 mm hkmm (by omega) (by omega) id ((p_ : Nat) : Int) (by omega) (by omega)) rfl (fun w hw => hw.hex hlow hpre)) ?_
          rintro _ _ ⟨_, ⟨x_26, m_27, u_28, e_24, k_25, f_29, rfl, rfl⟩, rfl⟩
          refine JL.op rfl (JO.toBytes Tryz.underlying9 Tryz.underlying44 Tryz.underlying5 rfl (by unfold maxLen; omega)) ?_
          rintro _ _ ⟨a_30, c_31, rfl, rfl⟩
          refine JL.pure rfl (PO.assign (v := .slice a_30 u_28.length c_31) rfl) ?_
          refine JL.nil ?_
          refine JQ.seq ?_
          refine JC.seq ?_
          refine JC.region ?_
          refine JL.pure rfl (PO.move (v := .int .i64 ((p_ : Nat) : Int)) he_22) ?_
          refine JL.pure rfl (PO.mul (c := ((p_ * 8 : Nat) : Int)) rfl rfl (wr (by omega))) ?_
          refine JL.pure rfl (PO.assign (v := .int .i64 ((p_ * 8 : Nat) : Int)) rfl) ?_
          refine JL.nil ?_
          refine JQ.seq ?_
          refine JC.seq ?_
          refine JC.seq ?_
          refine JC.region ?_
          refine JL.pure rfl (PO.move (v := .int .i64 ((a : Nat) : Int)) he_17) ?_
          refine JL.pure rfl (PO.move (v := .int .i64 ((p_ * 8 : Nat) : Int)) rfl) ?_
          refine JL.pure rfl (PO.max2 (c := ((max a (p_ * 8) : Nat) : Int)) rfl rfl (by omega)) ?_
          refine JL.pure rfl (PO.assign (v := .int .i64 ((max a (p_ * 8) : Nat) : Int)) rfl) ?_
          refine JL.nil ?_
          refine JQ.seq ?_
          refine JC.block ?_
          refine JC.loop (fun k_ e_ L_ => ∃ j_ : Nat, ∃ bba : Option Addr, ∃ bbc : Nat, ∃ bbn : Nat, ∃ bb : Str, (bb.length = bbn) ∧ (max a (p_ * 8) ≤ j_ ∧ j_ ≤ min (a + text.length) (p_ * 8 + 8)) ∧ (bb = overTo text a (p_ * 8) u_28 (j_ - max a (p_ * 8))) ∧ (bb.length ≤ 20008) ∧ e_ 0 = .pointer (some ⟨p, 0, none⟩) ∧ e_ 1 = .int .i64 id ∧ e_ 2 = .int .i64 ((a : Nat) : Int) ∧ e_ 3 = str text ∧ e_ 8 = .int .i64 0 ∧ e_ 9 = .int .i64 n_9 ∧ e_ 10 = .int .i64 ((a + text.length : Nat) : Int) ∧ e_ 11 = .int .i64 ((p_ : Nat) : Int) ∧ e_ 12 = .slice bba bbn bbc ∧ e_ 13 = .int .i64 ((p_ * 8 : Nat) : Int) ∧ e_ 14 = .int .i64 ((j_ : Nat) : Int) ∧ L_ = [Res.row (.slice bba bbn bbc) 5 1 bbn (bb.map encB), mb p x_26 m_27, rC x_26.a0 x_26.c0 m_27.s, rS x_26.a1 x_26.c1 m_27.r, rS x_26.a2 x_26.c2 m_27.w] ∧ k_ = 100 - j_) _ ⟨(max a (p_ * 8)), a_30, c_31, u_28.length, u_28, (by first | rfl | omega | (simp only [List.length_append, List.length_cons, List.length_nil, List.length_set]; omega) | simp), (by omega), (by rw [Nat.sub_self]; rfl), (by omega), he_15, he_16, he_17, he_18, he_19, he_20, he_21, he_22, rfl, rfl, rfl, rfl, rfl⟩ ?_
          rintro _ e_32 _ ⟨j_, bba, bbc, bbn, bb, hbbn, hj, hb, hbl, he_33, he_34, he_35, he_36, he_37, he_38, he_39, he_40, he_41, he_42, he_43, rfl, rfl⟩
          refine JC.seq ?_
          refine JC.seq ?_
          refine JC.region ?_
          refine JL.pure rfl (PO.move (v := .int .i64 ((j_ : Nat) : Int)) he_43) ?_
          refine JL.pure rfl (PO.move (v := .int .i64 ((a + text.length : Nat) : Int)) he_39) ?_
          refine JL.pure rfl (PO.move (v := .int .i64 ((p_ * 8 : Nat) : Int)) he_42) ?_
          refine JL.pure rfl (PO.add (c := (((p_ * 8) + 8 : Nat) : Int)) rfl rfl (wr (by omega))) ?_
          refine JL.pure rfl (PO.min2 (c := ((min (a + text.length) (p_ * 8 + 8) : Nat) : Int)) rfl rfl (by omega)) ?_
          refine JL.pure rfl (PO.lss rfl rfl) ?_
          refine JL.nil ?_
          refine JQ.seq ?_
          by_cases h_44 : ((j_ : Nat) : Int) < ((min (a + text.length) (p_ * 8 + 8) : Nat) : Int)
          · skip
            refine JC.condT (congrArg Value.bool (decide_eq_true h_44)) ?_
            refine JC.skip ?_
            refine JQ.seq ?_
            refine JC.seq ?_
            refine JC.block ?_
            refine JC.seq ?_
            refine JC.block ?_
            refine JC.loop (fun k_ e_ L_ => ∃ g_ : Nat, ∃ cca : Option Addr, ∃ ccc : Nat, ∃ ccn : Nat, ∃ cc : Str, (cc.length = ccn) ∧ (cc ++ List.replicate (j_ - p_ * 8 + 1 - cc.length) 0 = bb ++ List.replicate (j_ - p_ * 8 + 1 - bb.length) 0) ∧ (cc.length = bb.length + g_) ∧ e_ 0 = .pointer (some ⟨p, 0, none⟩) ∧ e_ 1 = .int .i64 id ∧ e_ 2 = .int .i64 ((a : Nat) : Int) ∧ e_ 3 = str text ∧ e_ 8 = .int .i64 0 ∧ e_ 9 = .int .i64 n_9 ∧ e_ 10 = .int .i64 ((a + text.length : Nat) : Int) ∧ e_ 11 = .int .i64 ((p_ : Nat) : Int) ∧ e_ 12 = .slice cca ccn ccc ∧ e_ 13 = .int .i64 ((p_ * 8 : Nat) : Int) ∧ e_ 14 = .int .i64 ((j_ : Nat) : Int) ∧ L_ = [Res.row (.slice cca ccn ccc) 5 1 ccn (cc.map encB), mb p x_26 m_27, rC x_26.a0 x_26.c0 m_27.s, rS x_26.a1 x_26.c1 m_27.r, rS x_26.a2 x_26.c2 m_27.w] ∧ k_ = 21000 - g_) _ ⟨0, bba, bbc, bbn, bb, (by first | rfl | omega | (simp only [List.length_append, List.length_cons, List.length_nil, List.length_set]; omega) | simp), rfl, (by omega), he_33, he_34, he_35, he_36, he_37, he_38, he_39, he_40, he_41, he_42, he_43, rfl, rfl⟩ ?_
            rintro _ e_45 _ ⟨g_, cca, ccc, ccn, cc, hccn, hc, hcl, he_46, he_47, he_48, he_49, he_50, he_51, he_52, he_53, he_54, he_55, he_56, rfl, rfl⟩
            refine JC.seq ?_
            refine JC.seq ?_
            refine JC.region ?_
            refine JL.pure rfl (PO.move (v := .slice cca ccn ccc) he_54) ?_
            refine JL.pure rfl (PO.lenV Tryz.underlying44 rfl) ?_
            refine JL.pure rfl (PO.move (v := .int .i64 ((j_ : Nat) : Int)) he_56) ?_
            refine JL.pure rfl (PO.move (v := .int .i64 ((p_ * 8 : Nat) : Int)) he_55) ?_
            refine JL.pure rfl (PO.sub (c := ((j_ - (p_ * 8) : Nat) : Int)) rfl rfl (wr (by omega))) ?_
            refine JL.pure rfl (PO.leq rfl rfl) ?_
            refine JL.nil ?_
            refine JQ.seq ?_
            by_cases h_57 : ((ccn : Nat) : Int) ≤ ((j_ - (p_ * 8) : Nat) : Int)
            · skip
              refine JC.condT (congrArg Value.bool (decide_eq_true h_57)) ?_
              refine JC.skip ?_
              refine JQ.seq ?_
              refine JC.block ?_
              refine JC.region ?_
              refine JL.pure rfl (PO.move (v := .slice cca ccn ccc) he_54) ?_
              refine JL.op rfl (JO.buildSlice (ps := [(0, .int .u8 0)]) (cur := #[.int .u8 0]) Tryz.underlying44 Tryz.sizeOf5 Tryz.zeroValue5 rfl (by kernel_rfl) (by decide) (by decide)) ?_
              rintro _ _ ⟨a_58, rfl, rfl⟩
              refine JL.op rfl (JO.append' 1 (q := 1) (news := ([0] : List UInt8).map encB) (n' := (cc ++ ([0] : List UInt8)).length) (cs' := (cc ++ ([0] : List UInt8)).map encB) rfl Tryz.underlying44 Tryz.underlying44 Tryz.typeInfo5 rfl (by' := 1) rfl rfl rfl rfl rfl (fun w hw => Src.sees (hw.see (i := 0) rfl) (oneB _)) (by (try simp only [List.length_append, List.length_cons, List.length_nil, List.length_take, List.length_drop]); omega) (by (try simp only [List.length_append, List.length_cons, List.length_nil, List.length_take, List.length_drop]); omega) (by simp only [List.length_append, List.length_take, List.length_drop, List.length_cons, List.length_nil] <;> first | rfl | omega) (by simp only [List.map_append])) ?_
              rintro _ _ ⟨a_59, c_60, rfl, rfl⟩
              refine JL.pure rfl (PO.assign (v := .slice a_59 ((cc ++ ([0] : List UInt8)).length) c_60) rfl) ?_
              refine JL.nil ?_
              refine JQ.blockN ?_
              refine JQ.pick [1, 1, 1, 1, 1] (A := [Res.row (.slice a_59 ((cc ++ ([0] : List UInt8)).length) c_60) 5 1 ((cc ++ ([0] : List UInt8)).length) ((cc ++ ([0] : List UInt8)).map encB), mb p x_26 m_27, rC x_26.a0 x_26.c0 m_27.s, rS x_26.a1 x_26.c1 m_27.r, rS x_26.a2 x_26.c2 m_27.w]) rfl ?_
              refine JQ.again (21000 - (g_ + 1)) (by omega) ⟨(g_ + 1), a_59, c_60, ((cc ++ ([0] : List UInt8)).length), (cc ++ ([0] : List UInt8)), (by first | rfl | omega | (simp only [List.length_append, List.length_cons, List.length_nil, List.length_set]; omega) | simp), (by rw [List.length_append, ← hc]; exact pad_step (by omega)), (by simp only [List.length_append, List.length_cons, List.length_nil]; omega), he_46, he_47, he_48, he_49, he_50, he_51, he_52, he_53, rfl, he_55, he_56, rfl, rfl⟩
            · skip
              have hcd : cc = bb ++ List.replicate (j_ - p_ * 8 + 1 - bb.length) 0 := by rw [← hc, show j_ - p_ * 8 + 1 - cc.length = 0 by omega]; simp
              refine JC.condF (congrArg Value.bool (decide_eq_false h_57)) ?_
              refine JC.exit ?_
              refine JQ.thenExit ?_
              refine JQ.thenExit ?_
              refine JQ.blockE ?_
              refine JQ.seq ?_
              refine JC.region ?_
              refine JL.pure rfl (PO.move (v := .slice cca ccn ccc) he_54) ?_
              refine JL.pure rfl (PO.move (v := .int .i64 ((j_ : Nat) : Int)) he_56) ?_
              refine JL.pure rfl (PO.move (v := .int .i64 ((p_ * 8 : Nat) : Int)) he_55) ?_
              refine JL.pure rfl (PO.sub (c := ((j_ - (p_ * 8) : Nat) : Int)) rfl rfl (wr (by omega))) ?_
              refine JL.pure rfl (PO.move (v := str text) he_49) ?_
              refine JL.pure rfl (PO.move (v := .int .i64 ((j_ : Nat) : Int)) he_56) ?_
              refine JL.pure rfl (PO.move (v := .int .i64 ((a : Nat) : Int)) he_48) ?_
              refine JL.pure rfl (PO.sub (c := ((j_ - a : Nat) : Int)) rfl rfl (wr (by omega))) ?_
              refine JL.pure rfl (PO.indexS (i := j_ - a) (c := text.getD (j_ - a) 0) Tryz.underlying9 rfl rfl (getD_some (by omega))) ?_
              have hu_61 := UInt8.toNat_lt (text.getD (j_ - a) 0)
              refine JL.facts fun hst => ?_
              obtain ⟨hr_62, hr_62b, -⟩ := row_some 0 rfl (by omega) hst
              refine JL.pure rfl (PO.indexAddrV (i := (j_ - (p_ * 8))) Tryz.underlying44 Tryz.sizeOf5 hr_62 hr_62b rfl rfl (by omega)) ?_
              refine JL.op rfl (JO.storeR 0 (vs := [.int .u8 ((text.getD (j_ - a) 0).toNat : Int)]) (cs' := (cc.set (j_ - (p_ * 8)) (text.getD (j_ - a) 0)).map encB) rfl rfl rfl rfl Tryz.sizeOf5 rfl rfl (by decide) (by rw [List.length_map]; omega) (setB (by omega))) ?_
              rintro _ _ rfl
              refine JL.nil ?_
              refine JQ.blockN ?_
              refine JQ.seq ?_
              refine JC.region ?_
              refine JL.pure rfl (PO.move (v := .int .i64 ((j_ : Nat) : Int)) he_56) ?_
              refine JL.pure rfl (PO.add (c := ((j_ + 1 : Nat) : Int)) rfl rfl (wr (by omega))) ?_
              refine JL.pure rfl (PO.assign (v := .int .i64 ((j_ + 1 : Nat) : Int)) rfl) ?_
              refine JL.nil ?_
              refine JQ.pick [0, 0, 0, 0, 0] (A := [Res.row (.slice cca ccn ccc) 5 1 ccn ((cc.set (j_ - (p_ * 8)) (text.getD (j_ - a) 0)).map encB), mb p x_26 m_27, rC x_26.a0 x_26.c0 m_27.s, rS x_26.a1 x_26.c1 m_27.r, rS x_26.a2 x_26.c2 m_27.w]) rfl ?_
              refine JQ.again (100 - (j_ + 1)) (by omega) ⟨(j_ + 1), cca, ccc, ccn, (cc.set (j_ - (p_ * 8)) (text.getD (j_ - a) 0)), (by first | rfl | omega | (simp only [List.length_append, List.length_cons, List.length_nil, List.length_set]; omega) | simp), (by omega), (overTo_step (by omega) hb hcd), (by have hl_ := congrArg List.length hcd; simp only [List.length_append, List.length_replicate] at hl_; simp only [List.length_set]; omega), he_46, he_47, he_48, he_49, he_50, he_51, he_52, he_53, he_54, he_55, rfl, rfl, rfl⟩
          · skip
            have hb2 : overTo text a (p_ * 8) u_28 (min (a + text.length) (p_ * 8 + 8) - max a (p_ * 8)) = bb := by rw [hb, show j_ - max a (p_ * 8) = min (a + text.length) (p_ * 8 + 8) - max a (p_ * 8) by omega]
            refine JC.condF (congrArg Value.bool (decide_eq_false h_44)) ?_
            refine JC.exit ?_
            refine JQ.thenExit ?_
            refine JQ.thenExit ?_
            refine JQ.blockE ?_
            refine JQ.seq ?_
            refine JC.regionA [] 1000 mixed (by simp) ?_
            refine JA.takeP 0 rfl (by kernel_rfl) (NP.bl (NP.th (NP.th (NP.bl (NP.th NP.body))))) (by kernel_rfl) (by kernel_rfl) rfl (PO.move (v := .pointer (some ⟨p, 0, none⟩)) he_33) ?_
            refine JA.takeP 1 rfl (by kernel_rfl) (NP.bl (NP.th (NP.th (NP.bl (NP.th NP.body))))) (by kernel_rfl) (by kernel_rfl) rfl (PO.move (v := .int .i64 id) he_34) ?_
            refine JA.takeP 2 rfl (by kernel_rfl) (NP.bl (NP.th (NP.th (NP.bl (NP.th NP.body))))) (by kernel_rfl) (by kernel_rfl) rfl (PO.move (v := .int .i64 ((p_ : Nat) : Int)) he_40) ?_
            refine JA.takeP 4 rfl (by kernel_rfl) (NP.bl (NP.th (NP.th (NP.bl (NP.th NP.body))))) (by kernel_rfl) (by kernel_rfl) rfl (PO.move (v := .slice bba bbn bbc) he_41) ?_
            refine JA.two (i := 3) (j := 5) (by kernel_rfl) ?_ ?_
            · skip
              refine JX.op rfl rfl (JO.call [] Tryz.call249 rfl (N_blockKey id ((p_ : Nat) : Int) (by omega) (by omega)) rfl (fun _ _ => trivial)) ?_
              rintro _ _ ⟨_, ⟨u_73, e_71, f_74, rfl, rfl⟩, rfl⟩
              refine ⟨(fun _ h => by cases h), ?_⟩
              refine JA.one (i := 5) (by kernel_rfl) ?_
              refine JX.op rfl rfl (JO.ofLO (LO.toStr 0 bb rfl Tryz.underlying44 Tryz.underlying5 Tryz.underlying9 rfl rfl)) ?_
              rintro _ _ ⟨rfl, rfl⟩
              refine ⟨(fun _ h => by cases h), ?_⟩
              refine JA.one (i := 6) (by kernel_rfl) ?_
              refine JX.op rfl rfl (JO.call [] Tryz.call250 rfl (N_hexOf bb (by omega)) rfl (fun _ _ => trivial)) ?_
              rintro _ _ ⟨_, ⟨u_81, e_79, f_82, rfl, rfl⟩, rfl⟩
              refine ⟨(fun _ h => by cases h), ?_⟩
              refine JA.one (i := 7) (by kernel_rfl) ?_
              refine JX.op rfl rfl (JO.call [1, 1, 1, 1] Tryz.call240 rfl (N_lay p x_26 m_27 k_25 (by omega) (by omega) u_73 u_81 (by omega)) rfl (fun _ _ => trivial)) ?_
              rintro _ _ ⟨_, ⟨x_89, m_90, e_87, k_88, rfl, rfl⟩, rfl⟩
              refine ⟨(fun _ h => by cases h), ?_⟩
              refine JA.done (by kernel_rfl) ?_
              refine JQ.blockN ?_
              refine JQ.seq ?_
              refine JC.region ?_
              refine JL.pure rfl (PO.move (v := .int .i64 ((p_ : Nat) : Int)) he_40) ?_
              refine JL.pure rfl (PO.add (c := ((p_ + 1 : Nat) : Int)) rfl rfl (wr (by omega))) ?_
              refine JL.pure rfl (PO.assign (v := .int .i64 ((p_ + 1 : Nat) : Int)) rfl) ?_
              refine JL.nil ?_
              refine JQ.pick [0, 0, 0, 0] (A := [mb p x_89 m_90, rC x_89.a0 x_89.c0 m_90.s, rS x_89.a1 x_89.c1 m_90.r, rS x_89.a2 x_89.c2 m_90.w]) rfl ?_
              refine JQ.again (70 - (p_ + 1)) (by omega) ⟨(p_ + 1), x_89, m_90, (k_88.mono (by omega) (by omega)), (by omega), (by rw [show 130 - p_ = (130 - (p_ + 1)) + 1 by omega, MS.writeL, if_pos (by omega)] at hR; simp only [MS.blockKey, e_1, e_5, e_24, e_71, e_79, e_87, hb2] at hR; exact hR), he_33, he_34, he_35, he_36, he_37, he_38, he_39, rfl, rfl, rfl⟩
            · skip
              refine JX.op rfl rfl (JO.ofLO (LO.toStr 0 bb rfl Tryz.underlying44 Tryz.underlying5 Tryz.underlying9 rfl rfl)) ?_
              rintro _ _ ⟨rfl, rfl⟩
              refine ⟨(fun _ h => by cases h), ?_⟩
              refine JA.one (i := 3) (by kernel_rfl) ?_
              refine JX.op rfl rfl (JO.call [] Tryz.call249 rfl (N_blockKey id ((p_ : Nat) : Int) (by omega) (by omega)) rfl (fun _ _ => trivial)) ?_
              rintro _ _ ⟨_, ⟨u_97, e_95, f_98, rfl, rfl⟩, rfl⟩
              refine ⟨(fun _ h => by cases h), ?_⟩
              refine JA.one (i := 6) (by kernel_rfl) ?_
              refine JX.op rfl rfl (JO.call [] Tryz.call250 rfl (N_hexOf bb (by omega)) rfl (fun _ _ => trivial)) ?_
              rintro _ _ ⟨_, ⟨u_105, e_103, f_106, rfl, rfl⟩, rfl⟩
              refine ⟨(fun _ h => by cases h), ?_⟩
              refine JA.one (i := 7) (by kernel_rfl) ?_
              refine JX.op rfl rfl (JO.call [1, 1, 1, 1] Tryz.call240 rfl (N_lay p x_26 m_27 k_25 (by omega) (by omega) u_97 u_105 (by omega)) rfl (fun _ _ => trivial)) ?_
              rintro _ _ ⟨_, ⟨x_113, m_114, e_111, k_112, rfl, rfl⟩, rfl⟩
              refine ⟨(fun _ h => by cases h), ?_⟩
              refine JA.done (by kernel_rfl) ?_
              refine JQ.blockN ?_
              refine JQ.seq ?_
              refine JC.region ?_
              refine JL.pure rfl (PO.move (v := .int .i64 ((p_ : Nat) : Int)) he_40) ?_
              refine JL.pure rfl (PO.add (c := ((p_ + 1 : Nat) : Int)) rfl rfl (wr (by omega))) ?_
              refine JL.pure rfl (PO.assign (v := .int .i64 ((p_ + 1 : Nat) : Int)) rfl) ?_
              refine JL.nil ?_
              refine JQ.pick [0, 0, 0, 0] (A := [mb p x_113 m_114, rC x_113.a0 x_113.c0 m_114.s, rS x_113.a1 x_113.c1 m_114.r, rS x_113.a2 x_113.c2 m_114.w]) rfl ?_
              refine JQ.again (70 - (p_ + 1)) (by omega) ⟨(p_ + 1), x_113, m_114, (k_112.mono (by omega) (by omega)), (by omega), (by rw [show 130 - p_ = (130 - (p_ + 1)) + 1 by omega, MS.writeL, if_pos (by omega)] at hR; simp only [MS.blockKey, e_1, e_5, e_24, e_95, e_103, e_111, hb2] at hR; exact hR), he_33, he_34, he_35, he_36, he_37, he_38, he_39, rfl, rfl, rfl⟩
        · skip
          rw [MS.writeL_stop (by omega)] at hR
          have hRE := hR.symm
          refine JC.condF (congrArg Value.bool (decide_eq_false h_23)) ?_
          refine JC.exit ?_
          refine JQ.thenExit ?_
          refine JQ.thenExit ?_
          refine JQ.blockE ?_
          refine JQ.seq ?_
          refine JC.seq ?_
          refine JC.seq ?_
          refine JC.region ?_
          refine JL.pure rfl (PO.move (v := .int .i64 ((a + text.length : Nat) : Int)) he_21) ?_
          refine JL.pure rfl (PO.move (v := .int .i64 n_9) he_20) ?_
          refine JL.pure rfl (PO.gtr rfl rfl) ?_
          refine JL.nil ?_
          refine JQ.seq ?_
          by_cases h_115 : n_9 < ((a + text.length : Nat) : Int)
          · skip
            refine JC.condT (congrArg Value.bool (decide_eq_true h_115)) ?_
            refine JC.region ?_
            refine JL.pure rfl (PO.move (v := .pointer (some ⟨p, 0, none⟩)) he_15) ?_
            refine JL.pure rfl (PO.move (v := .int .i64 id) he_16) ?_
            refine JL.op rfl (JO.call [] Tryz.call205 rfl (N_sizeKey id (by omega)) rfl (fun _ _ => trivial)) ?_
            rintro _ _ ⟨_, ⟨u_118, e_116, f_119, rfl, rfl⟩, rfl⟩
            have hqe_116 := e_1.symm.trans e_116
            subst hqe_116
            refine JL.pure rfl (PO.move (v := .int .i64 ((a + text.length : Nat) : Int)) he_21) ?_
            refine JL.op rfl (JO.call [0, 0, 0, 0] Tryz.call241 rfl (N_setNum p x1 mm hkmm (by omega) (by omega) u_3 ((a + text.length : Nat) : Int) (by omega) (by omega)) rfl (fun _ _ => trivial)) ?_
            rintro _ _ ⟨_, ⟨x_122, m_123, e_120, k_121, rfl, rfl⟩, rfl⟩
            refine JL.nil ?_
            refine JQ.seq ?_
            refine JC.seq ?_
            refine JC.region ?_
            refine JL.pure rfl (PO.assign (v := .int .i64 0) rfl) ?_
            refine JL.nil ?_
            refine JQ.seq ?_
            refine JC.ret ?_
            refine Done.one (.inl rfl) rfl (RV.tmp (v := .int .i64 0) rfl) (List.Sublist.refl _) ?_
            exact ⟨x_122, m_123, 0, (by simp only [MS.writeFile, List.length_nil, Int.toNat_natCast, true_or, or_true, false_or, or_false, MS.sizeOf, e_1, e_5, h_11, hat, h_12, h_13, h_23, hRE, h_115, e_120, if_true, if_false, Bool.false_eq_true, Bool.not_true, Bool.not_false]; (repeat (first | rw [if_pos (by omega)] | rw [if_neg (by omega)])); all_goals (first | rfl | simp only [if_true, if_false, Bool.false_eq_true, Bool.not_true, Bool.not_false, e_1, e_5, h_11, hat, h_12, h_13, h_23, hRE, h_115, e_120])), (k_121.mono (by omega) (by omega)), (by first | omega | (simp only [List.length_append, List.length_cons, List.length_nil, List.length_take, List.length_drop]; omega)), rfl, rfl⟩
          · skip
            refine JC.condF (congrArg Value.bool (decide_eq_false h_115)) ?_
            refine JC.skip ?_
            refine JQ.seq ?_
            refine JC.seq ?_
            refine JC.region ?_
            refine JL.pure rfl (PO.assign (v := .int .i64 0) rfl) ?_
            refine JL.nil ?_
            refine JQ.seq ?_
            refine JC.ret ?_
            refine Done.one (.inl rfl) rfl (RV.tmp (v := .int .i64 0) rfl) (List.Sublist.refl _) ?_
            exact ⟨x1, mm, 0, (by simp only [MS.writeFile, List.length_nil, Int.toNat_natCast, true_or, or_true, false_or, or_false, MS.sizeOf, e_1, e_5, h_11, hat, h_12, h_13, h_23, hRE, h_115, if_true, if_false, Bool.false_eq_true, Bool.not_true, Bool.not_false]; (repeat (first | rw [if_pos (by omega)] | rw [if_neg (by omega)])); all_goals (first | rfl | simp only [if_true, if_false, Bool.false_eq_true, Bool.not_true, Bool.not_false, e_1, e_5, h_11, hat, h_12, h_13, h_23, hRE, h_115])), (hkmm.mono (by omega) (by omega)), (by first | omega | (simp only [List.length_append, List.length_cons, List.length_nil, List.length_take, List.length_drop]; omega)), rfl, rfl⟩
  · skip
    have h_11d := h_11
    simp only [Bool.and_eq_true, Bool.and_eq_false_iff, decide_eq_true_eq, decide_eq_false_iff_not] at h_11d
    refine JL.guardOff (b := true) rfl rfl rfl (congrArg Value.bool (congrArg Bool.not h_11)) ?_
    refine JL.guardOff (b := true) rfl rfl rfl (congrArg Value.bool (congrArg Bool.not h_11)) ?_
    refine JL.pure rfl (PO.pickT (v := .bool true) (congrArg Value.bool (congrArg Bool.not h_11)) rfl) ?_
    refine JL.nil ?_
    refine JQ.seq ?_
    refine JC.condT (congrArg Value.bool rfl) ?_
    refine JC.seq ?_
    refine JC.region ?_
    refine JL.pure rfl (PO.assign (v := .int .i64 4) rfl) ?_
    refine JL.nil ?_
    refine JQ.seq ?_
    refine JC.ret ?_
    refine JQ.thenRet ?_
    refine Done.one (.inl rfl) rfl (RV.tmp (v := .int .i64 4) rfl) (List.Sublist.refl _) ?_
    exact ⟨x_7, m_8, 4, (by simp only [MS.writeFile, List.length_nil, Int.toNat_natCast, true_or, or_true, false_or, or_false, MS.sizeOf, e_1, e_5, h_11, if_true, if_false, Bool.false_eq_true, Bool.not_true, Bool.not_false]; (repeat (first | rw [if_pos (by omega)] | rw [if_neg (by omega)])); all_goals (first | rfl | simp only [if_true, if_false, Bool.false_eq_true, Bool.not_true, Bool.not_false, e_1, e_5, h_11])), (k_6.mono (by omega) (by omega)), (by first | omega | (simp only [List.length_append, List.length_cons, List.length_nil, List.length_take, List.length_drop]; omega)), rfl, rfl⟩

theorem M_writeFile (x : MA) (m : MS) {S T : Nat} (hk : m.ok S T) (hS : S ≤ 50000000) (hT : T ≤ 50000000) (id : Int) (at_ : Int) (text : Str) (hid : -9223372036854775808 ≤ id ∧ id ≤ 9223372036854775807) (hat_ : -9223372036854775808 ≤ at_ ∧ at_ ≤ 9223372036854775807) (htext : text.length ≤ 1000000000000) :
    Ct Tryz.prog 137 [mv x m, .int .i64 id, .int .i64 at_, str text] (mr x m) (fun _ => True) (fun v A' => ∃ x' m' r0, MS.writeFile m id at_ text = (m', r0) ∧ m'.ok (S + 12) (T + 30) ∧ (0 ≤ r0 ∧ r0 ≤ 9) ∧ v = .tuple #[mv x' m', .int .i64 r0] ∧ A' = mr x' m') := by
  refine Ct.intro Tryz.func137 rfl Tryz.ntmps137 (Nat.le_of_ble_eq_true rfl) fun w0 hpre => ?_
  refine JC.seq ?_
  refine JC.region ?_
  refine JL.op rfl (JO.box (cs := [.slice x.a0 m.s.length x.c0, .slice x.a1 m.r.length x.c1, .slice x.a2 m.w.length x.c2]) rfl rfl) ?_
  rintro _ _ ⟨b_1, rfl, rfl⟩
  refine JL.op rfl (JO.alloc (z := .agg #[.slice none 0 0, .slice none 0 0, .slice none 0 0]) (cs := [.slice none 0 0, .slice none 0 0, .slice none 0 0]) Tryz.zeroValue32 rfl) ?_
  rintro _ _ ⟨b_2, rfl, rfl⟩
  refine JL.pure rfl (PO.assign (v := .int .i64 0) rfl) ?_
  refine JL.nil ?_
  refine JQ.seq ?_
  refine JC.seq ?_
  refine JC.region ?_
  refine JL.ld rfl (LO.loadK 1 (vs := [.slice x.a0 m.s.length x.c0, .slice x.a1 m.r.length x.c1, .slice x.a2 m.w.length x.c2]) rfl rfl Tryz.isAgg32 Tryz.sizeOf32 rfl rfl) ?_
  refine JL.pure rfl (PO.move (v := .int .i64 id) rfl) ?_
  refine JL.op rfl (JO.call [2, 2, 2] Tryz.call206 rfl (M_sizeFile x m hk (by omega) (by omega) id (by omega)) rfl (fun _ _ => trivial)) ?_
  rintro _ _ ⟨_, ⟨x_5, m_6, n_7, e_3, k_4, f_8, rfl, rfl⟩, rfl⟩
  refine JL.pure rfl (PO.move (v := .tuple #[mv x_5 m_6, .int .i64 n_7]) rfl) ?_
  refine JL.pure rfl (PO.extract (v := mv x_5 m_6) rfl rfl) ?_
  refine JL.pure rfl (PO.extract (v := .int .i64 n_7) rfl rfl) ?_
  refine JL.op rfl (JO.store 4 (vs := [.slice x_5.a0 m_6.s.length x_5.c0, .slice x_5.a1 m_6.r.length x_5.c1, .slice x_5.a2 m_6.w.length x_5.c2]) (cs' := [.slice x_5.a0 m_6.s.length x_5.c0, .slice x_5.a1 m_6.r.length x_5.c1, .slice x_5.a2 m_6.w.length x_5.c2]) rfl rfl rfl rfl Tryz.sizeOf32 rfl rfl (Nat.le_of_ble_eq_true rfl) rfl) ?_
  rintro _ _ rfl
  refine JL.pure rfl (PO.assign (v := .int .i64 n_7) rfl) ?_
  refine JL.nil ?_
  refine JQ.seq ?_
  refine JC.seq ?_
  refine JC.seq ?_
  refine JC.region ?_
  refine JL.pure rfl (PO.move (v := .int .i64 at_) rfl) ?_
  refine JL.pure rfl (PO.move (v := .int .i64 n_7) rfl) ?_
  refine JL.op rfl (JO.call [] Tryz.call144 rfl (C_l01In at_ 0 n_7) rfl (fun _ _ => trivial)) ?_
  rintro _ _ ⟨_, ⟨rfl, rfl⟩, rfl⟩
  refine JL.pure rfl (PO.not rfl) ?_
  refine JL.pure rfl (PO.move (v := .bool (!(decide (0 ≤ at_) && decide (at_ ≤ n_7)))) rfl) ?_
  rcases Bool.eq_false_or_eq_true (decide (0 ≤ at_) && decide (at_ ≤ n_7)) with h_9 | h_9
  · skip
    have h_9d := h_9
    simp only [Bool.and_eq_true, Bool.and_eq_false_iff, decide_eq_true_eq, decide_eq_false_iff_not] at h_9d
    obtain ⟨a, hat⟩ : ∃ a : Nat, at_ = ((a : Nat) : Int) := ⟨at_.toNat, by omega⟩
    refine JL.guardOn rfl rfl rfl (congrArg Value.bool (congrArg Bool.not h_9)) (JO.ofLO (LO.pure (PO.move (v := str text) rfl))) ?_
    rintro _ _ ⟨rfl, rfl⟩
    refine JL.guardOn rfl rfl rfl (congrArg Value.bool (congrArg Bool.not h_9)) (JO.ofLO (LO.pure (PO.eqlS rfl rfl))) ?_
    rintro _ _ ⟨rfl, rfl⟩
    refine JL.pure rfl (PO.pickF (v := .bool (decide (text = []))) (congrArg Value.bool (congrArg Bool.not h_9)) rfl) ?_
    refine JL.nil ?_
    refine JQ.seq ?_
    by_cases h_10 : text = []
    · skip
      have h_10l : text.length = 0 := by rw [h_10]; rfl
      refine JC.condT (congrArg Value.bool (decide_eq_true h_10)) ?_
      refine JC.seq ?_
      refine JC.region ?_
      refine JL.ld rfl (LO.loadK 4 (vs := [.slice x_5.a0 m_6.s.length x_5.c0, .slice x_5.a1 m_6.r.length x_5.c1, .slice x_5.a2 m_6.w.length x_5.c2]) rfl rfl Tryz.isAgg32 Tryz.sizeOf32 rfl rfl) ?_
      refine JL.op rfl (JO.store 3 (vs := [.slice x_5.a0 m_6.s.length x_5.c0, .slice x_5.a1 m_6.r.length x_5.c1, .slice x_5.a2 m_6.w.length x_5.c2]) (cs' := [.slice x_5.a0 m_6.s.length x_5.c0, .slice x_5.a1 m_6.r.length x_5.c1, .slice x_5.a2 m_6.w.length x_5.c2]) rfl rfl rfl rfl Tryz.sizeOf32 rfl rfl (Nat.le_of_ble_eq_true rfl) rfl) ?_
      rintro _ _ rfl
      refine JL.pure rfl (PO.assign (v := .int .i64 4) rfl) ?_
      refine JL.nil ?_
      refine JQ.seq ?_
      refine JC.ret ?_
      refine JQ.thenRet ?_
      refine Done.two (.inl rfl) rfl (RV.cell1 (LO.loadK 3 (vs := [.slice x_5.a0 m_6.s.length x_5.c0, .slice x_5.a1 m_6.r.length x_5.c1, .slice x_5.a2 m_6.w.length x_5.c2]) rfl rfl Tryz.isAgg32 Tryz.sizeOf32 rfl rfl) ⟨_, rfl⟩) (RV.tmp (v := .int .i64 4) rfl) (List.sublist_append_left [rC x_5.a0 x_5.c0 m_6.s, rS x_5.a1 x_5.c1 m_6.r, rS x_5.a2 x_5.c2 m_6.w] [mb b_2 x_5 m_6, mb b_1 x_5 m_6]) ?_
      exact ⟨x_5, m_6, 4, (by simp only [MS.writeFile, List.length_nil, Int.toNat_natCast, true_or, or_true, false_or, or_false, e_3, h_9, hat, h_10, if_true, if_false, Bool.false_eq_true, Bool.not_true, Bool.not_false]; (repeat (first | rw [if_pos (by omega)] | rw [if_neg (by omega)])); all_goals (first | rfl | simp only [if_true, if_false, Bool.false_eq_true, Bool.not_true, Bool.not_false, e_3, h_9, hat, h_10])), (k_4.mono (by omega) (by omega)), (by first | omega | (simp only [List.length_append, List.length_cons, List.length_nil, List.length_take, List.length_drop]; omega)), rfl, rfl⟩
    · skip
      have h_10l := List.length_pos_iff.2 h_10
      refine JC.condF (congrArg Value.bool (decide_eq_false h_10)) ?_
      refine JC.skip ?_
      refine JQ.seq ?_
      refine JC.seq ?_
      refine JC.region ?_
      refine JL.pure rfl (PO.move (v := .int .i64 ((a : Nat) : Int)) (congrArg (Value.int .i64) hat)) ?_
      refine JL.pure rfl (PO.move (v := str text) rfl) ?_
      refine JL.pure rfl (PO.lenS Tryz.underlying9 rfl) ?_
      refine JL.pure rfl (PO.add (c := ((a + text.length : Nat) : Int)) rfl rfl (wr (by omega))) ?_
      refine JL.pure rfl (PO.assign (v := .int .i64 ((a + text.length : Nat) : Int)) rfl) ?_
      refine JL.nil ?_
      refine JQ.seq ?_
      refine JC.seq ?_
      refine JC.seq ?_
      refine JC.region ?_
      refine JL.pure rfl (PO.move (v := .int .i64 ((a + text.length : Nat) : Int)) rfl) ?_
      refine JL.pure rfl (PO.gtr rfl rfl) ?_
      refine JL.nil ?_
      refine JQ.seq ?_
      by_cases h_11 : 64 < ((a + text.length : Nat) : Int)
      · skip
        refine JC.condT (congrArg Value.bool (decide_eq_true h_11)) ?_
        refine JC.seq ?_
        refine JC.region ?_
        refine JL.ld rfl (LO.loadK 4 (vs := [.slice x_5.a0 m_6.s.length x_5.c0, .slice x_5.a1 m_6.r.length x_5.c1, .slice x_5.a2 m_6.w.length x_5.c2]) rfl rfl Tryz.isAgg32 Tryz.sizeOf32 rfl rfl) ?_
        refine JL.op rfl (JO.store 3 (vs := [.slice x_5.a0 m_6.s.length x_5.c0, .slice x_5.a1 m_6.r.length x_5.c1, .slice x_5.a2 m_6.w.length x_5.c2]) (cs' := [.slice x_5.a0 m_6.s.length x_5.c0, .slice x_5.a1 m_6.r.length x_5.c1, .slice x_5.a2 m_6.w.length x_5.c2]) rfl rfl rfl rfl Tryz.sizeOf32 rfl rfl (Nat.le_of_ble_eq_true rfl) rfl) ?_
        rintro _ _ rfl
        refine JL.pure rfl (PO.assign (v := .int .i64 3) rfl) ?_
        refine JL.nil ?_
        refine JQ.seq ?_
        refine JC.ret ?_
        refine JQ.thenRet ?_
        refine Done.two (.inl rfl) rfl (RV.cell1 (LO.loadK 3 (vs := [.slice x_5.a0 m_6.s.length x_5.c0, .slice x_5.a1 m_6.r.length x_5.c1, .slice x_5.a2 m_6.w.length x_5.c2]) rfl rfl Tryz.isAgg32 Tryz.sizeOf32 rfl rfl) ⟨_, rfl⟩) (RV.tmp (v := .int .i64 3) rfl) (List.sublist_append_left [rC x_5.a0 x_5.c0 m_6.s, rS x_5.a1 x_5.c1 m_6.r, rS x_5.a2 x_5.c2 m_6.w] [mb b_2 x_5 m_6, mb b_1 x_5 m_6]) ?_
        exact ⟨x_5, m_6, 3, (by simp only [MS.writeFile, List.length_nil, Int.toNat_natCast, true_or, or_true, false_or, or_false, e_3, h_9, hat, h_10, h_11, if_true, if_false, Bool.false_eq_true, Bool.not_true, Bool.not_false]; (repeat (first | rw [if_pos (by omega)] | rw [if_neg (by omega)])); all_goals (first | rfl | simp only [if_true, if_false, Bool.false_eq_true, Bool.not_true, Bool.not_false, e_3, h_9, hat, h_10, h_11])), (k_4.mono (by omega) (by omega)), (by first | omega | (simp only [List.length_append, List.length_cons, List.length_nil, List.length_take, List.length_drop]; omega)), rfl, rfl⟩
      · skip
        refine JC.condF (congrArg Value.bool (decide_eq_false h_11)) ?_
        refine JC.skip ?_
        refine JQ.seq ?_
        refine JC.seq ?_
        refine JC.seq ?_
        refine JC.region ?_
        refine JL.pure rfl (PO.move (v := .int .i64 ((a : Nat) : Int)) (congrArg (Value.int .i64) hat)) ?_
        refine JL.pure rfl (PO.quoN (c := ((a / 8 : Nat) : Int)) rfl rfl (by omega) (by omega) (by omega) (wr (by omega))) ?_
        refine JL.pure rfl (PO.assign (v := .int .i64 ((a / 8 : Nat) : Int)) rfl) ?_
        refine JL.nil ?_
        refine JQ.seq ?_
        refine JC.block ?_
        refine JC.loop (fun k_ e_ L_ => ∃ p_ : Nat, ∃ x1 : MA, ∃ mm : MS, (mm.ok (S + p_) (T + 2 + 2 * p_)) ∧ (a / 8 ≤ p_ ∧ p_ ≤ 9) ∧ (MS.writeL id text a (a + text.length) (130 - p_) p_ mm = MS.writeL id text a (a + text.length) (130 - a / 8) (a / 8) m_6) ∧ e_ 1 = .int .i64 id ∧ e_ 2 = .int .i64 ((a : Nat) : Int) ∧ e_ 3 = str text ∧ e_ 4 = .pointer (some ⟨b_1, 0, none⟩) ∧ e_ 8 = .pointer (some ⟨b_2, 0, none⟩) ∧ e_ 9 = .int .i64 0 ∧ e_ 10 = .int .i64 n_7 ∧ e_ 11 = .int .i64 ((a + text.length : Nat) : Int) ∧ e_ 12 = .int .i64 ((p_ : Nat) : Int) ∧ L_ = [rC x1.a0 x1.c0 mm.s, rS x1.a1 x1.c1 mm.r, rS x1.a2 x1.c2 mm.w, bk b_2 32 [.slice none 0 0, .slice none 0 0, .slice none 0 0], mb b_1 x1 mm] ∧ k_ = 70 - p_) _ ⟨(a / 8), x_5, m_6, (k_4.mono (by omega) (by omega)), (by omega), rfl, rfl, (congrArg (Value.int .i64) hat), rfl, rfl, rfl, rfl, rfl, rfl, rfl, rfl, rfl⟩ ?_
        rintro _ e_12 _ ⟨p_, x1, mm, hkmm, hp0, hR, he_13, he_14, he_15, he_16, he_17, he_18, he_19, he_20, he_21, rfl, rfl⟩
        refine JC.seq ?_
        refine JC.seq ?_
        refine JC.region ?_
        refine JL.pure rfl (PO.move (v := .int .i64 ((p_ : Nat) : Int)) he_21) ?_
        refine JL.pure rfl (PO.mul (c := ((p_ * 8 : Nat) : Int)) rfl rfl (wr (by omega))) ?_
        refine JL.pure rfl (PO.move (v := .int .i64 ((a + text.length : Nat) : Int)) he_20) ?_
        refine JL.pure rfl (PO.lss rfl rfl) ?_
        refine JL.nil ?_
        refine JQ.seq ?_
        by_cases h_22 : ((p_ * 8 : Nat) : Int) < ((a + text.length : Nat) : Int)
        · skip
          refine JC.condT (congrArg Value.bool (decide_eq_true h_22)) ?_
          refine JC.skip ?_
          refine JQ.seq ?_
          refine JC.seq ?_
          refine JC.block ?_
          refine JC.seq ?_
          refine JC.region ?_
          refine JL.pure rfl (PO.assign (v := str []) rfl) ?_
          refine JL.nil ?_
          refine JQ.seq ?_
          refine JC.seq ?_
          refine JC.region ?_
          refine JL.ld rfl (LO.loadK 4 (vs := [.slice x1.a0 mm.s.length x1.c0, .slice x1.a1 mm.r.length x1.c1, .slice x1.a2 mm.w.length x1.c2]) rfl he_16 Tryz.isAgg32 Tryz.sizeOf32 rfl rfl) ?_
          refine JL.pure rfl (PO.move (v := .int .i64 id) he_13) ?_
          refine JL.pure rfl (PO.move (v := .int .i64 ((p_ : Nat) : Int)) he_21) ?_
          refine JL.op rfl (JO.call [0, 0, 0] Tryz.call208 rfl (M_block x1 mm hkmm (by omega) (by omega) id ((p_ : Nat) : Int) (by omega) (by omega)) rfl (fun _ _ => trivial)) ?_
          rintro _ _ ⟨_, ⟨x_25, m_26, u_27, e_23, k_24, f_28, rfl, rfl⟩, rfl⟩
          refine JL.pure rfl (PO.move (v := .tuple #[mv x_25 m_26, str u_27]) rfl) ?_
          refine JL.pure rfl (PO.extract (v := mv x_25 m_26) rfl rfl) ?_
          refine JL.pure rfl (PO.extract (v := str u_27) rfl rfl) ?_
          refine JL.op rfl (JO.store 4 (vs := [.slice x_25.a0 m_26.s.length x_25.c0, .slice x_25.a1 m_26.r.length x_25.c1, .slice x_25.a2 m_26.w.length x_25.c2]) (cs' := [.slice x_25.a0 m_26.s.length x_25.c0, .slice x_25.a1 m_26.r.length x_25.c1, .slice x_25.a2 m_26.w.length x_25.c2]) rfl he_16 rfl rfl Tryz.sizeOf32 rfl rfl (Nat.le_of_ble_eq_true rfl) rfl) ?_
          rintro _ _ rfl
          refine JL.pure rfl (PO.assign (v := str u_27) rfl) ?_
          refine JL.nil ?_
          refine JQ.seq ?_
          refine JC.seq ?_
          refine JC.region ?_
          refine JL.pure rfl (PO.move (v := str u_27) rfl) ?_
          refine JL.op rfl (JO.toBytes Tryz.underlying9 Tryz.underlying44 Tryz.underlying5 rfl (by unfold maxLen; omega)) ?_
          rintro _ _ ⟨a_29, c_30, rfl, rfl⟩
          refine JL.pure rfl (PO.assign (v := .slice a_29 u_27.length c_30) rfl) ?_
          refine JL.nil ?_
          refine JQ.seq ?_
          refine JC.seq ?_
          refine JC.seq ?_
          refine JC.region ?_
          refine JL.pure rfl (PO.assign (v := .int .i64 0) rfl) ?_
          refine JL.nil ?_
          refine JQ.seq ?_
          refine JC.block ?_
          refine JC.loop (fun k_ e_ L_ => ∃ i_ : Nat, ∃ bba : Option Addr, ∃ bbc : Nat, ∃ bbn : Nat, ∃ bb : Str, (bb.length = bbn) ∧ (i_ ≤ 8) ∧ (bb = overTo text a (p_ * 8) u_27 (min (a + text.length) (p_ * 8 + i_) - max a (p_ * 8))) ∧ (bb.length ≤ 20008) ∧ e_ 1 = .int .i64 id ∧ e_ 2 = .int .i64 ((a : Nat) : Int) ∧ e_ 3 = str text ∧ e_ 4 = .pointer (some ⟨b_1, 0, none⟩) ∧ e_ 8 = .pointer (some ⟨b_2, 0, none⟩) ∧ e_ 9 = .int .i64 0 ∧ e_ 10 = .int .i64 n_7 ∧ e_ 11 = .int .i64 ((a + text.length : Nat) : Int) ∧ e_ 12 = .int .i64 ((p_ : Nat) : Int) ∧ e_ 14 = .slice bba bbn bbc ∧ e_ 15 = .int .i64 ((i_ : Nat) : Int) ∧ L_ = [Res.row (.slice bba bbn bbc) 5 1 bbn (bb.map encB), rC x_25.a0 x_25.c0 m_26.s, rS x_25.a1 x_25.c1 m_26.r, rS x_25.a2 x_25.c2 m_26.w, bk b_2 32 [.slice none 0 0, .slice none 0 0, .slice none 0 0], mb b_1 x_25 m_26] ∧ k_ = 8 - i_) _ ⟨0, a_29, c_30, u_27.length, u_27, (by first | rfl | omega | (simp only [List.length_append, List.length_cons, List.length_nil, List.length_set]; omega) | simp), (by omega), (by rw [show min (a + text.length) (p_ * 8 + 0) - max a (p_ * 8) = 0 by omega]; rfl), (by omega), he_13, he_14, he_15, he_16, he_17, he_18, he_19, he_20, he_21, rfl, rfl, rfl, rfl⟩ ?_
          rintro _ e_31 _ ⟨i_, bba, bbc, bbn, bb, hbbn, hi, hb, hbl, he_32, he_33, he_34, he_35, he_36, he_37, he_38, he_39, he_40, he_41, he_42, rfl, rfl⟩
          refine JC.seq ?_
          refine JC.seq ?_
          refine JC.region ?_
          refine JL.pure rfl (PO.move (v := .int .i64 ((i_ : Nat) : Int)) he_42) ?_
          refine JL.pure rfl (PO.lss rfl rfl) ?_
          refine JL.nil ?_
          refine JQ.seq ?_
          by_cases h_43 : ((i_ : Nat) : Int) < 8
          · skip
            refine JC.condT (congrArg Value.bool (decide_eq_true h_43)) ?_
            refine JC.skip ?_
            refine JQ.seq ?_
            refine JC.seq ?_
            refine JC.block ?_
            refine JC.seq ?_
            refine JC.region ?_
            refine JL.pure rfl (PO.move (v := .int .i64 ((p_ : Nat) : Int)) he_40) ?_
            refine JL.pure rfl (PO.mul (c := ((p_ * 8 : Nat) : Int)) rfl rfl (wr (by omega))) ?_
            refine JL.pure rfl (PO.move (v := .int .i64 ((i_ : Nat) : Int)) he_42) ?_
            refine JL.pure rfl (PO.add (c := (((p_ * 8) + i_ : Nat) : Int)) rfl rfl (wr (by omega))) ?_
            refine JL.pure rfl (PO.assign (v := .int .i64 (((p_ * 8) + i_ : Nat) : Int)) rfl) ?_
            refine JL.nil ?_
            refine JQ.seq ?_
            refine JC.seq ?_
            refine JC.seq ?_
            refine JC.region ?_
            refine JL.pure rfl (PO.move (v := .int .i64 (((p_ * 8) + i_ : Nat) : Int)) rfl) ?_
            refine JL.pure rfl (PO.move (v := .int .i64 ((a : Nat) : Int)) he_33) ?_
            refine JL.pure rfl (PO.lss rfl rfl) ?_
            refine JL.pure rfl (PO.move (v := .bool (decide ((((p_ * 8) + i_ : Nat) : Int) < ((a : Nat) : Int)))) rfl) ?_
            by_cases h_44 : (((p_ * 8) + i_ : Nat) : Int) < ((a : Nat) : Int)
            · skip
              refine JL.guardOff (b := true) rfl rfl rfl (congrArg Value.bool (decide_eq_true h_44)) ?_
              refine JL.guardOff (b := true) rfl rfl rfl (congrArg Value.bool (decide_eq_true h_44)) ?_
              refine JL.guardOff (b := true) rfl rfl rfl (congrArg Value.bool (decide_eq_true h_44)) ?_
              refine JL.pure rfl (PO.pickT (v := .bool true) (congrArg Value.bool (decide_eq_true h_44)) rfl) ?_
              refine JL.nil ?_
              refine JQ.seq ?_
              refine JC.condT (congrArg Value.bool rfl) ?_
              refine JC.exit ?_
              refine JQ.thenExit ?_
              refine JQ.blockE ?_
              refine JQ.seq ?_
              refine JC.region ?_
              refine JL.pure rfl (PO.move (v := .int .i64 ((i_ : Nat) : Int)) he_42) ?_
              refine JL.pure rfl (PO.add (c := ((i_ + 1 : Nat) : Int)) rfl rfl (wr (by omega))) ?_
              refine JL.pure rfl (PO.assign (v := .int .i64 ((i_ + 1 : Nat) : Int)) rfl) ?_
              refine JL.nil ?_
              refine JQ.pick [0, 0, 0, 0, 0, 0] (A := [Res.row (.slice bba bbn bbc) 5 1 bbn (bb.map encB), rC x_25.a0 x_25.c0 m_26.s, rS x_25.a1 x_25.c1 m_26.r, rS x_25.a2 x_25.c2 m_26.w, bk b_2 32 [.slice none 0 0, .slice none 0 0, .slice none 0 0], mb b_1 x_25 m_26]) rfl ?_
              refine JQ.again (8 - (i_ + 1)) (by omega) ⟨(i_ + 1), bba, bbc, bbn, bb, (by first | rfl | omega | (simp only [List.length_append, List.length_cons, List.length_nil, List.length_set]; omega) | simp), (by omega), (by rw [hb, show min (a + text.length) (p_ * 8 + (i_ + 1)) - max a (p_ * 8) = min (a + text.length) (p_ * 8 + i_) - max a (p_ * 8) by omega]), (by omega), he_32, he_33, he_34, he_35, he_36, he_37, he_38, he_39, he_40, he_41, rfl, rfl, rfl⟩
            · skip
              refine JL.guardOn rfl rfl rfl (congrArg Value.bool (decide_eq_false h_44)) (JO.ofLO (LO.pure (PO.move (v := .int .i64 (((p_ * 8) + i_ : Nat) : Int)) rfl))) ?_
              rintro _ _ ⟨rfl, rfl⟩
              refine JL.guardOn rfl rfl rfl (congrArg Value.bool (decide_eq_false h_44)) (JO.ofLO (LO.pure (PO.move (v := .int .i64 ((a + text.length : Nat) : Int)) he_39))) ?_
              rintro _ _ ⟨rfl, rfl⟩
              refine JL.guardOn rfl rfl rfl (congrArg Value.bool (decide_eq_false h_44)) (JO.ofLO (LO.pure (PO.geq rfl rfl))) ?_
              rintro _ _ ⟨rfl, rfl⟩
              refine JL.pure rfl (PO.pickF (v := .bool (decide (((a + text.length : Nat) : Int) ≤ (((p_ * 8) + i_ : Nat) : Int)))) (congrArg Value.bool (decide_eq_false h_44)) rfl) ?_
              refine JL.nil ?_
              refine JQ.seq ?_
              by_cases h_45 : ((a + text.length : Nat) : Int) ≤ (((p_ * 8) + i_ : Nat) : Int)
              · skip
                refine JC.condT (congrArg Value.bool (decide_eq_true h_45)) ?_
                refine JC.exit ?_
                refine JQ.thenExit ?_
                refine JQ.blockE ?_
                refine JQ.seq ?_
                refine JC.region ?_
                refine JL.pure rfl (PO.move (v := .int .i64 ((i_ : Nat) : Int)) he_42) ?_
                refine JL.pure rfl (PO.add (c := ((i_ + 1 : Nat) : Int)) rfl rfl (wr (by omega))) ?_
                refine JL.pure rfl (PO.assign (v := .int .i64 ((i_ + 1 : Nat) : Int)) rfl) ?_
                refine JL.nil ?_
                refine JQ.pick [0, 0, 0, 0, 0, 0] (A := [Res.row (.slice bba bbn bbc) 5 1 bbn (bb.map encB), rC x_25.a0 x_25.c0 m_26.s, rS x_25.a1 x_25.c1 m_26.r, rS x_25.a2 x_25.c2 m_26.w, bk b_2 32 [.slice none 0 0, .slice none 0 0, .slice none 0 0], mb b_1 x_25 m_26]) rfl ?_
                refine JQ.again (8 - (i_ + 1)) (by omega) ⟨(i_ + 1), bba, bbc, bbn, bb, (by first | rfl | omega | (simp only [List.length_append, List.length_cons, List.length_nil, List.length_set]; omega) | simp), (by omega), (by rw [hb, show min (a + text.length) (p_ * 8 + (i_ + 1)) - max a (p_ * 8) = min (a + text.length) (p_ * 8 + i_) - max a (p_ * 8) by omega]), (by omega), he_32, he_33, he_34, he_35, he_36, he_37, he_38, he_39, he_40, he_41, rfl, rfl, rfl⟩
              · skip
                refine JC.condF (congrArg Value.bool (decide_eq_false h_45)) ?_
                refine JC.skip ?_
                refine JQ.seq ?_
                refine JC.seq ?_
                refine JC.block ?_
                refine JC.loop (fun k_ e_ L_ => ∃ g_ : Nat, ∃ cca : Option Addr, ∃ ccc : Nat, ∃ ccn : Nat, ∃ cc : Str, (cc.length = ccn) ∧ (cc ++ List.replicate (i_ + 1 - cc.length) 0 = bb ++ List.replicate (i_ + 1 - bb.length) 0) ∧ (cc.length = bb.length + g_) ∧ e_ 1 = .int .i64 id ∧ e_ 2 = .int .i64 ((a : Nat) : Int) ∧ e_ 3 = str text ∧ e_ 4 = .pointer (some ⟨b_1, 0, none⟩) ∧ e_ 8 = .pointer (some ⟨b_2, 0, none⟩) ∧ e_ 9 = .int .i64 0 ∧ e_ 10 = .int .i64 n_7 ∧ e_ 11 = .int .i64 ((a + text.length : Nat) : Int) ∧ e_ 12 = .int .i64 ((p_ : Nat) : Int) ∧ e_ 14 = .slice cca ccn ccc ∧ e_ 15 = .int .i64 ((i_ : Nat) : Int) ∧ e_ 16 = .int .i64 (((p_ * 8) + i_ : Nat) : Int) ∧ L_ = [Res.row (.slice cca ccn ccc) 5 1 ccn (cc.map encB), rC x_25.a0 x_25.c0 m_26.s, rS x_25.a1 x_25.c1 m_26.r, rS x_25.a2 x_25.c2 m_26.w, bk b_2 32 [.slice none 0 0, .slice none 0 0, .slice none 0 0], mb b_1 x_25 m_26] ∧ k_ = 21000 - g_) _ ⟨0, bba, bbc, bbn, bb, (by first | rfl | omega | (simp only [List.length_append, List.length_cons, List.length_nil, List.length_set]; omega) | simp), rfl, (by omega), he_32, he_33, he_34, he_35, he_36, he_37, he_38, he_39, he_40, he_41, he_42, rfl, rfl, rfl⟩ ?_
                rintro _ e_46 _ ⟨g_, cca, ccc, ccn, cc, hccn, hc, hcl, he_47, he_48, he_49, he_50, he_51, he_52, he_53, he_54, he_55, he_56, he_57, he_58, rfl, rfl⟩
                refine JC.seq ?_
                refine JC.seq ?_
                refine JC.region ?_
                refine JL.pure rfl (PO.move (v := .slice cca ccn ccc) he_56) ?_
                refine JL.pure rfl (PO.lenV Tryz.underlying44 rfl) ?_
                refine JL.pure rfl (PO.move (v := .int .i64 ((i_ : Nat) : Int)) he_57) ?_
                refine JL.pure rfl (PO.leq rfl rfl) ?_
                refine JL.nil ?_
                refine JQ.seq ?_
                by_cases h_59 : ((ccn : Nat) : Int) ≤ ((i_ : Nat) : Int)
                · skip
                  refine JC.condT (congrArg Value.bool (decide_eq_true h_59)) ?_
                  refine JC.skip ?_
                  refine JQ.seq ?_
                  refine JC.block ?_
                  refine JC.region ?_
                  refine JL.pure rfl (PO.move (v := .slice cca ccn ccc) he_56) ?_
                  refine JL.op rfl (JO.buildSlice (ps := [(0, .int .u8 0)]) (cur := #[.int .u8 0]) Tryz.underlying44 Tryz.sizeOf5 Tryz.zeroValue5 rfl (by kernel_rfl) (by decide) (by decide)) ?_
                  rintro _ _ ⟨a_60, rfl, rfl⟩
                  refine JL.op rfl (JO.append' 1 (q := 1) (news := ([0] : List UInt8).map encB) (n' := (cc ++ ([0] : List UInt8)).length) (cs' := (cc ++ ([0] : List UInt8)).map encB) rfl Tryz.underlying44 Tryz.underlying44 Tryz.typeInfo5 rfl (by' := 1) rfl rfl rfl rfl rfl (fun w hw => Src.sees (hw.see (i := 0) rfl) (oneB _)) (by (try simp only [List.length_append, List.length_cons, List.length_nil, List.length_take, List.length_drop]); omega) (by (try simp only [List.length_append, List.length_cons, List.length_nil, List.length_take, List.length_drop]); omega) (by simp only [List.length_append, List.length_take, List.length_drop, List.length_cons, List.length_nil] <;> first | rfl | omega) (by simp only [List.map_append])) ?_
                  rintro _ _ ⟨a_61, c_62, rfl, rfl⟩
                  refine JL.pure rfl (PO.assign (v := .slice a_61 ((cc ++ ([0] : List UInt8)).length) c_62) rfl) ?_
                  refine JL.nil ?_
                  refine JQ.blockN ?_
                  refine JQ.pick [1, 1, 1, 1, 1, 1] (A := [Res.row (.slice a_61 ((cc ++ ([0] : List UInt8)).length) c_62) 5 1 ((cc ++ ([0] : List UInt8)).length) ((cc ++ ([0] : List UInt8)).map encB), rC x_25.a0 x_25.c0 m_26.s, rS x_25.a1 x_25.c1 m_26.r, rS x_25.a2 x_25.c2 m_26.w, bk b_2 32 [.slice none 0 0, .slice none 0 0, .slice none 0 0], mb b_1 x_25 m_26]) rfl ?_
                  refine JQ.again (21000 - (g_ + 1)) (by omega) ⟨(g_ + 1), a_61, c_62, ((cc ++ ([0] : List UInt8)).length), (cc ++ ([0] : List UInt8)), (by first | rfl | omega | (simp only [List.length_append, List.length_cons, List.length_nil, List.length_set]; omega) | simp), (by rw [List.length_append, ← hc]; exact pad_step (by omega)), (by simp only [List.length_append, List.length_cons, List.length_nil]; omega), he_47, he_48, he_49, he_50, he_51, he_52, he_53, he_54, he_55, rfl, he_57, he_58, rfl, rfl⟩
                · skip
                  have hcd : cc = bb ++ List.replicate (p_ * 8 + i_ - p_ * 8 + 1 - bb.length) 0 := by rw [show p_ * 8 + i_ - p_ * 8 = i_ by omega, ← hc, show i_ + 1 - cc.length = 0 by omega]; simp
                  refine JC.condF (congrArg Value.bool (decide_eq_false h_59)) ?_
                  refine JC.exit ?_
                  refine JQ.thenExit ?_
                  refine JQ.thenExit ?_
                  refine JQ.blockE ?_
                  refine JQ.seq ?_
                  refine JC.region ?_
                  refine JL.pure rfl (PO.move (v := .slice cca ccn ccc) he_56) ?_
                  refine JL.pure rfl (PO.move (v := .int .i64 ((i_ : Nat) : Int)) he_57) ?_
                  refine JL.pure rfl (PO.move (v := str text) he_49) ?_
                  refine JL.pure rfl (PO.move (v := .int .i64 (((p_ * 8) + i_ : Nat) : Int)) he_58) ?_
                  refine JL.pure rfl (PO.move (v := .int .i64 ((a : Nat) : Int)) he_48) ?_
                  refine JL.pure rfl (PO.sub (c := ((((p_ * 8) + i_) - a : Nat) : Int)) rfl rfl (wr (by omega))) ?_
                  refine JL.pure rfl (PO.indexS (i := ((p_ * 8) + i_) - a) (c := text.getD (((p_ * 8) + i_) - a) 0) Tryz.underlying9 rfl rfl (getD_some (by omega))) ?_
                  have hu_63 := UInt8.toNat_lt (text.getD (((p_ * 8) + i_) - a) 0)
                  refine JL.facts fun hst => ?_
                  obtain ⟨hr_64, hr_64b, -⟩ := row_some 0 rfl (by omega) hst
                  refine JL.pure rfl (PO.indexAddrV (i := i_) Tryz.underlying44 Tryz.sizeOf5 hr_64 hr_64b rfl rfl (by omega)) ?_
                  refine JL.op rfl (JO.storeR 0 (vs := [.int .u8 ((text.getD (((p_ * 8) + i_) - a) 0).toNat : Int)]) (cs' := (cc.set i_ (text.getD (((p_ * 8) + i_) - a) 0)).map encB) rfl rfl rfl rfl Tryz.sizeOf5 rfl rfl (by decide) (by rw [List.length_map]; omega) (setB (by omega))) ?_
                  rintro _ _ rfl
                  refine JL.nil ?_
                  refine JQ.blockN ?_
                  refine JQ.seq ?_
                  refine JC.region ?_
                  refine JL.pure rfl (PO.move (v := .int .i64 ((i_ : Nat) : Int)) he_57) ?_
                  refine JL.pure rfl (PO.add (c := ((i_ + 1 : Nat) : Int)) rfl rfl (wr (by omega))) ?_
                  refine JL.pure rfl (PO.assign (v := .int .i64 ((i_ + 1 : Nat) : Int)) rfl) ?_
                  refine JL.nil ?_
                  refine JQ.pick [0, 0, 0, 0, 0, 0] (A := [Res.row (.slice cca ccn ccc) 5 1 ccn ((cc.set i_ (text.getD (((p_ * 8) + i_) - a) 0)).map encB), rC x_25.a0 x_25.c0 m_26.s, rS x_25.a1 x_25.c1 m_26.r, rS x_25.a2 x_25.c2 m_26.w, bk b_2 32 [.slice none 0 0, .slice none 0 0, .slice none 0 0], mb b_1 x_25 m_26]) rfl ?_
                  refine JQ.again (8 - (i_ + 1)) (by omega) ⟨(i_ + 1), cca, ccc, ccn, (cc.set i_ (text.getD (((p_ * 8) + i_) - a) 0)), (by first | rfl | omega | (simp only [List.length_append, List.length_cons, List.length_nil, List.length_set]; omega) | simp), (by omega), (by have h3_ := overTo_step (text := text) (a := a) (f := p_ * 8) (j := p_ * 8 + i_) (by omega) (hb.trans (by rw [show min (a + text.length) (p_ * 8 + i_) - max a (p_ * 8) = p_ * 8 + i_ - max a (p_ * 8) by omega])) hcd; rw [show p_ * 8 + i_ - p_ * 8 = i_ by omega, show p_ * 8 + i_ + 1 - max a (p_ * 8) = min (a + text.length) (p_ * 8 + (i_ + 1)) - max a (p_ * 8) by omega] at h3_; exact h3_), (by have hl_ := congrArg List.length hcd; simp only [List.length_append, List.length_replicate] at hl_; simp only [List.length_set]; omega), he_47, he_48, he_49, he_50, he_51, he_52, he_53, he_54, he_55, he_56, rfl, rfl, rfl⟩
          · skip
            have hb2 : overTo text a (p_ * 8) u_27 (min (a + text.length) (p_ * 8 + 8) - max a (p_ * 8)) = bb := by rw [hb, show i_ = 8 by omega]
            refine JC.condF (congrArg Value.bool (decide_eq_false h_43)) ?_
            refine JC.exit ?_
            refine JQ.thenExit ?_
            refine JQ.thenExit ?_
            refine JQ.blockE ?_
            refine JQ.seq ?_
            refine JC.region ?_
            refine JL.ld rfl (LO.loadK 5 (vs := [.slice x_25.a0 m_26.s.length x_25.c0, .slice x_25.a1 m_26.r.length x_25.c1, .slice x_25.a2 m_26.w.length x_25.c2]) rfl he_35 Tryz.isAgg32 Tryz.sizeOf32 rfl rfl) ?_
            refine JL.pure rfl (PO.move (v := .int .i64 id) he_32) ?_
            refine JL.pure rfl (PO.move (v := .int .i64 ((p_ : Nat) : Int)) he_40) ?_
            refine JL.pure rfl (PO.move (v := .slice bba bbn bbc) he_41) ?_
            refine JL.ld rfl (LO.toStr 0 bb rfl Tryz.underlying44 Tryz.underlying5 Tryz.underlying9 rfl rfl) ?_
            refine JL.op rfl (JO.call [1, 1, 1] Tryz.call247 rfl (M_layBlock x_25 m_26 k_24 (by omega) (by omega) id ((p_ : Nat) : Int) bb (by omega) (by omega) (by omega)) rfl (fun _ _ => trivial)) ?_
            rintro _ _ ⟨_, ⟨x_67, m_68, e_65, k_66, rfl, rfl⟩, rfl⟩
            refine JL.op rfl (JO.store 5 (vs := [.slice x_67.a0 m_68.s.length x_67.c0, .slice x_67.a1 m_68.r.length x_67.c1, .slice x_67.a2 m_68.w.length x_67.c2]) (cs' := [.slice x_67.a0 m_68.s.length x_67.c0, .slice x_67.a1 m_68.r.length x_67.c1, .slice x_67.a2 m_68.w.length x_67.c2]) rfl he_35 rfl rfl Tryz.sizeOf32 rfl rfl (Nat.le_of_ble_eq_true rfl) rfl) ?_
            rintro _ _ rfl
            refine JL.nil ?_
            refine JQ.blockN ?_
            refine JQ.seq ?_
            refine JC.region ?_
            refine JL.pure rfl (PO.move (v := .int .i64 ((p_ : Nat) : Int)) he_40) ?_
            refine JL.pure rfl (PO.add (c := ((p_ + 1 : Nat) : Int)) rfl rfl (wr (by omega))) ?_
            refine JL.pure rfl (PO.assign (v := .int .i64 ((p_ + 1 : Nat) : Int)) rfl) ?_
            refine JL.nil ?_
            refine JQ.pick [0, 0, 0, 1, 1] (A := [rC x_67.a0 x_67.c0 m_68.s, rS x_67.a1 x_67.c1 m_68.r, rS x_67.a2 x_67.c2 m_68.w, bk b_2 32 [.slice none 0 0, .slice none 0 0, .slice none 0 0], mb b_1 x_67 m_68]) rfl ?_
            refine JQ.again (70 - (p_ + 1)) (by omega) ⟨(p_ + 1), x_67, m_68, (k_66.mono (by omega) (by omega)), (by omega), (by rw [show 130 - p_ = (130 - (p_ + 1)) + 1 by omega, MS.writeL, if_pos (by omega)] at hR; simp only [MS.blockKey, e_3, e_23, e_65, hb2] at hR; exact hR), he_32, he_33, he_34, he_35, he_36, he_37, he_38, he_39, rfl, rfl, rfl⟩
        · skip
          rw [MS.writeL_stop (by omega)] at hR
          have hRE := hR.symm
          refine JC.condF (congrArg Value.bool (decide_eq_false h_22)) ?_
          refine JC.exit ?_
          refine JQ.thenExit ?_
          refine JQ.thenExit ?_
          refine JQ.blockE ?_
          refine JQ.seq ?_
          refine JC.seq ?_
          refine JC.seq ?_
          refine JC.region ?_
          refine JL.pure rfl (PO.move (v := .int .i64 ((a + text.length : Nat) : Int)) he_20) ?_
          refine JL.pure rfl (PO.move (v := .int .i64 n_7) he_19) ?_
          refine JL.pure rfl (PO.gtr rfl rfl) ?_
          refine JL.nil ?_
          refine JQ.seq ?_
          by_cases h_69 : n_7 < ((a + text.length : Nat) : Int)
          · skip
            refine JC.condT (congrArg Value.bool (decide_eq_true h_69)) ?_
            refine JC.regionA [mb b_1 x1 mm] 4 mixed (by simp) ?_
            refine JA.take 0 rfl (by kernel_rfl) (NP.th NP.body) (by kernel_rfl) (by kernel_rfl) (by kernel_rfl) rfl (LO.loadK 0 (vs := [.slice x1.a0 mm.s.length x1.c0, .slice x1.a1 mm.r.length x1.c1, .slice x1.a2 mm.w.length x1.c2]) rfl he_16 Tryz.isAgg32 Tryz.sizeOf32 rfl rfl) ?_
            refine JA.takeP 1 rfl (by kernel_rfl) (NP.th NP.body) (by kernel_rfl) (by kernel_rfl) rfl (PO.move (v := .int .i64 id) he_13) ?_
            refine JA.takeP 3 rfl (by kernel_rfl) (NP.th NP.body) (by kernel_rfl) (by kernel_rfl) rfl (PO.move (v := .int .i64 ((a + text.length : Nat) : Int)) he_20) ?_
            refine JA.one (i := 2) (by kernel_rfl) ?_
            refine JX.op rfl rfl (JO.call [] Tryz.call219 rfl (N_sKeyNum [105, 47] id [47, 115] (show List.length ([105, 47] : Str) ≤ 2 by decide) (by omega) (show List.length ([47, 115] : Str) ≤ 2 by decide) (by omega)) rfl (fun _ _ => trivial)) ?_
            rintro _ _ ⟨_, ⟨u_80, e_78, f_81, rfl, rfl⟩, rfl⟩
            refine ⟨(by simp), ?_⟩
            refine JA.one (i := 4) (by kernel_rfl) ?_
            refine JX.late rfl rfl (by decide) (by kernel_rfl) (JO.call [0, 0, 0] Tryz.call233 rfl (N_sSetNum x1 mm hkmm (by omega) (by omega) u_80 ((a + text.length : Nat) : Int) (by omega) (by omega)) rfl (fun _ _ => trivial)) ?_
            rintro _ _ ⟨_, ⟨x_88, m_89, e_86, k_87, rfl, rfl⟩, rfl⟩
            refine JA.one (i := 5) (by kernel_rfl) ?_
            refine JX.last rfl rfl (by decide) (by kernel_rfl) (JO.store 4 (vs := [.slice x_88.a0 m_89.s.length x_88.c0, .slice x_88.a1 m_89.r.length x_88.c1, .slice x_88.a2 m_89.w.length x_88.c2]) (cs' := [.slice x_88.a0 m_89.s.length x_88.c0, .slice x_88.a1 m_89.r.length x_88.c1, .slice x_88.a2 m_89.w.length x_88.c2]) rfl he_16 rfl rfl Tryz.sizeOf32 rfl rfl (Nat.le_of_ble_eq_true rfl) rfl) ?_
            rintro _ _ rfl
            refine JQ.seq ?_
            refine JC.seq ?_
            refine JC.region ?_
            refine JL.ld rfl (LO.loadK 4 (vs := [.slice x_88.a0 m_89.s.length x_88.c0, .slice x_88.a1 m_89.r.length x_88.c1, .slice x_88.a2 m_89.w.length x_88.c2]) rfl he_16 Tryz.isAgg32 Tryz.sizeOf32 rfl rfl) ?_
            refine JL.op rfl (JO.store 3 (vs := [.slice x_88.a0 m_89.s.length x_88.c0, .slice x_88.a1 m_89.r.length x_88.c1, .slice x_88.a2 m_89.w.length x_88.c2]) (cs' := [.slice x_88.a0 m_89.s.length x_88.c0, .slice x_88.a1 m_89.r.length x_88.c1, .slice x_88.a2 m_89.w.length x_88.c2]) rfl he_17 rfl rfl Tryz.sizeOf32 rfl rfl (Nat.le_of_ble_eq_true rfl) rfl) ?_
            rintro _ _ rfl
            refine JL.pure rfl (PO.assign (v := .int .i64 0) rfl) ?_
            refine JL.nil ?_
            refine JQ.seq ?_
            refine JC.ret ?_
            refine Done.two (.inl rfl) rfl (RV.cell1 (LO.loadK 3 (vs := [.slice x_88.a0 m_89.s.length x_88.c0, .slice x_88.a1 m_89.r.length x_88.c1, .slice x_88.a2 m_89.w.length x_88.c2]) rfl he_17 Tryz.isAgg32 Tryz.sizeOf32 rfl rfl) ⟨_, he_17⟩) (RV.tmp (v := .int .i64 0) rfl) (List.sublist_append_left [rC x_88.a0 x_88.c0 m_89.s, rS x_88.a1 x_88.c1 m_89.r, rS x_88.a2 x_88.c2 m_89.w] [mb b_2 x_88 m_89, mb b_1 x_88 m_89]) ?_
            exact ⟨x_88, m_89, 0, (by simp only [MS.writeFile, List.length_nil, Int.toNat_natCast, true_or, or_true, false_or, or_false, e_3, h_9, hat, h_10, h_11, h_22, hRE, h_69, e_78, e_86, if_true, if_false, Bool.false_eq_true, Bool.not_true, Bool.not_false]; (repeat (first | rw [if_pos (by omega)] | rw [if_neg (by omega)])); all_goals (first | rfl | simp only [if_true, if_false, Bool.false_eq_true, Bool.not_true, Bool.not_false, e_3, h_9, hat, h_10, h_11, h_22, hRE, h_69, e_78, e_86])), (k_87.mono (by omega) (by omega)), (by first | omega | (simp only [List.length_append, List.length_cons, List.length_nil, List.length_take, List.length_drop]; omega)), rfl, rfl⟩
          · skip
            refine JC.condF (congrArg Value.bool (decide_eq_false h_69)) ?_
            refine JC.skip ?_
            refine JQ.seq ?_
            refine JC.seq ?_
            refine JC.region ?_
            refine JL.ld rfl (LO.loadK 4 (vs := [.slice x1.a0 mm.s.length x1.c0, .slice x1.a1 mm.r.length x1.c1, .slice x1.a2 mm.w.length x1.c2]) rfl he_16 Tryz.isAgg32 Tryz.sizeOf32 rfl rfl) ?_
            refine JL.op rfl (JO.store 3 (vs := [.slice x1.a0 mm.s.length x1.c0, .slice x1.a1 mm.r.length x1.c1, .slice x1.a2 mm.w.length x1.c2]) (cs' := [.slice x1.a0 mm.s.length x1.c0, .slice x1.a1 mm.r.length x1.c1, .slice x1.a2 mm.w.length x1.c2]) rfl he_17 rfl rfl Tryz.sizeOf32 rfl rfl (Nat.le_of_ble_eq_true rfl) rfl) ?_
            rintro _ _ rfl
            refine JL.pure rfl (PO.assign (v := .int .i64 0) rfl) ?_
            refine JL.nil ?_
            refine JQ.seq ?_
            refine JC.ret ?_
            refine Done.two (.inl rfl) rfl (RV.cell1 (LO.loadK 3 (vs := [.slice x1.a0 mm.s.length x1.c0, .slice x1.a1 mm.r.length x1.c1, .slice x1.a2 mm.w.length x1.c2]) rfl he_17 Tryz.isAgg32 Tryz.sizeOf32 rfl rfl) ⟨_, he_17⟩) (RV.tmp (v := .int .i64 0) rfl) (List.sublist_append_left [rC x1.a0 x1.c0 mm.s, rS x1.a1 x1.c1 mm.r, rS x1.a2 x1.c2 mm.w] [mb b_2 x1 mm, mb b_1 x1 mm]) ?_
            exact ⟨x1, mm, 0, (by simp only [MS.writeFile, List.length_nil, Int.toNat_natCast, true_or, or_true, false_or, or_false, e_3, h_9, hat, h_10, h_11, h_22, hRE, h_69, if_true, if_false, Bool.false_eq_true, Bool.not_true, Bool.not_false]; (repeat (first | rw [if_pos (by omega)] | rw [if_neg (by omega)])); all_goals (first | rfl | simp only [if_true, if_false, Bool.false_eq_true, Bool.not_true, Bool.not_false, e_3, h_9, hat, h_10, h_11, h_22, hRE, h_69])), (hkmm.mono (by omega) (by omega)), (by first | omega | (simp only [List.length_append, List.length_cons, List.length_nil, List.length_take, List.length_drop]; omega)), rfl, rfl⟩
  · skip
    have h_9d := h_9
    simp only [Bool.and_eq_true, Bool.and_eq_false_iff, decide_eq_true_eq, decide_eq_false_iff_not] at h_9d
    refine JL.guardOff (b := true) rfl rfl rfl (congrArg Value.bool (congrArg Bool.not h_9)) ?_
    refine JL.guardOff (b := true) rfl rfl rfl (congrArg Value.bool (congrArg Bool.not h_9)) ?_
    refine JL.pure rfl (PO.pickT (v := .bool true) (congrArg Value.bool (congrArg Bool.not h_9)) rfl) ?_
    refine JL.nil ?_
    refine JQ.seq ?_
    refine JC.condT (congrArg Value.bool rfl) ?_
    refine JC.seq ?_
    refine JC.region ?_
    refine JL.ld rfl (LO.loadK 4 (vs := [.slice x_5.a0 m_6.s.length x_5.c0, .slice x_5.a1 m_6.r.length x_5.c1, .slice x_5.a2 m_6.w.length x_5.c2]) rfl rfl Tryz.isAgg32 Tryz.sizeOf32 rfl rfl) ?_
    refine JL.op rfl (JO.store 3 (vs := [.slice x_5.a0 m_6.s.length x_5.c0, .slice x_5.a1 m_6.r.length x_5.c1, .slice x_5.a2 m_6.w.length x_5.c2]) (cs' := [.slice x_5.a0 m_6.s.length x_5.c0, .slice x_5.a1 m_6.r.length x_5.c1, .slice x_5.a2 m_6.w.length x_5.c2]) rfl rfl rfl rfl Tryz.sizeOf32 rfl rfl (Nat.le_of_ble_eq_true rfl) rfl) ?_
    rintro _ _ rfl
    refine JL.pure rfl (PO.assign (v := .int .i64 4) rfl) ?_
    refine JL.nil ?_
    refine JQ.seq ?_
    refine JC.ret ?_
    refine JQ.thenRet ?_
    refine Done.two (.inl rfl) rfl (RV.cell1 (LO.loadK 3 (vs := [.slice x_5.a0 m_6.s.length x_5.c0, .slice x_5.a1 m_6.r.length x_5.c1, .slice x_5.a2 m_6.w.length x_5.c2]) rfl rfl Tryz.isAgg32 Tryz.sizeOf32 rfl rfl) ⟨_, rfl⟩) (RV.tmp (v := .int .i64 4) rfl) (List.sublist_append_left [rC x_5.a0 x_5.c0 m_6.s, rS x_5.a1 x_5.c1 m_6.r, rS x_5.a2 x_5.c2 m_6.w] [mb b_2 x_5 m_6, mb b_1 x_5 m_6]) ?_
    exact ⟨x_5, m_6, 4, (by simp only [MS.writeFile, List.length_nil, Int.toNat_natCast, true_or, or_true, false_or, or_false, e_3, h_9, if_true, if_false, Bool.false_eq_true, Bool.not_true, Bool.not_false]; (repeat (first | rw [if_pos (by omega)] | rw [if_neg (by omega)])); all_goals (first | rfl | simp only [if_true, if_false, Bool.false_eq_true, Bool.not_true, Bool.not_false, e_3, h_9])), (k_4.mono (by omega) (by omega)), (by first | omega | (simp only [List.length_append, List.length_cons, List.length_nil, List.length_take, List.length_drop]; omega)), rfl, rfl⟩

theorem P_writeFile (x : MA) (m : MS) {S T : Nat} (hk : m.ok S T) (hS : S ≤ 49000000) (hT : T ≤ 49000000) (id : Int) (at_ : Int) (text : Str) (hid : -9223372036854775808 ≤ id ∧ id ≤ 9223372036854775807) (hat_ : -9223372036854775808 ≤ at_ ∧ at_ ≤ 9223372036854775807) (htext : text.length ≤ 1000000000000) :
    Ct Tryz.prog 25 [mv x m, .int .i64 id, .int .i64 at_, str text] ([]) (fun w => seesM w x m ∧ HexOk w) (fun v A' => ∃ x' m' r0, MS.writeFile m id at_ text = (m', r0) ∧ m'.ok (S + 12) (T + 30) ∧ (0 ≤ r0 ∧ r0 ≤ 9) ∧ v = .tuple #[mv x' m', .int .i64 r0] ∧ A' = mr x' m') := by
  refine Ct.introL Tryz.func25 rfl Tryz.ntmps25 (Nat.le_of_ble_eq_true rfl) fun w0 hpre hlow => ?_
  have hs_x_a0 : Sees w0 _ _ _ _ := hpre.1.1
  have hs_x_a1 : Sees w0 _ _ _ _ := hpre.1.2.1
  have hs_x_a2 : Sees w0 _ _ _ _ := hpre.1.2.2
  refine JC.seq ?_
  refine JC.region ?_
  refine JL.op rfl (JO.box (cs := [.slice x.a0 m.s.length x.c0, .slice x.a1 m.r.length x.c1, .slice x.a2 m.w.length x.c2]) rfl rfl) ?_
  rintro _ _ ⟨b_1, rfl, rfl⟩
  refine JL.op rfl (JO.alloc (z := .agg #[.slice none 0 0, .slice none 0 0, .slice none 0 0]) (cs := [.slice none 0 0, .slice none 0 0, .slice none 0 0]) Tryz.zeroValue32 rfl) ?_
  rintro _ _ ⟨b_2, rfl, rfl⟩
  refine JL.pure rfl (PO.assign (v := .int .i64 0) rfl) ?_
  refine JL.nil ?_
  refine JQ.seq ?_
  refine JC.seq ?_
  refine JC.region ?_
  refine JL.ld rfl (LO.loadK 1 (vs := [.slice x.a0 m.s.length x.c0, .slice x.a1 m.r.length x.c1, .slice x.a2 m.w.length x.c2]) rfl rfl Tryz.isAgg32 Tryz.sizeOf32 rfl rfl) ?_
  refine JL.op rfl (JO.call [] Tryz.call127 rfl (N_clone x m hk (by omega) (by omega)) rfl (fun w hw => ⟨hw.seeOut_ hs_x_a0 (fun _ _ => List.not_mem_nil), hw.seeOut_ hs_x_a1 (fun _ _ => List.not_mem_nil), hw.seeOut_ hs_x_a2 (fun _ _ => List.not_mem_nil)⟩)) ?_
  rintro _ _ ⟨_, ⟨x_5, m_6, rfl, k_4, rfl, rfl⟩, rfl⟩
  refine JL.op rfl (JO.store 4 (vs := [.slice x_5.a0 m.s.length x_5.c0, .slice x_5.a1 m.r.length x_5.c1, .slice x_5.a2 m.w.length x_5.c2]) (cs' := [.slice x_5.a0 m.s.length x_5.c0, .slice x_5.a1 m.r.length x_5.c1, .slice x_5.a2 m.w.length x_5.c2]) rfl rfl rfl rfl Tryz.sizeOf32 rfl rfl (Nat.le_of_ble_eq_true rfl) rfl) ?_
  rintro _ _ rfl
  refine JL.nil ?_
  refine JQ.seq ?_
  refine JC.seq ?_
  refine JC.region ?_
  refine JL.pure rfl (PO.move (v := .int .i64 id) rfl) ?_
  refine JL.pure rfl (PO.move (v := .int .i64 at_) rfl) ?_
  refine JL.pure rfl (PO.move (v := str text) rfl) ?_
  refine JL.op rfl (JO.call [4, 0, 0, 0] Tryz.call138 rfl (N_writeFile b_1 x_5 m k_4 (by omega) (by omega) id at_ text (by omega) (by omega) (by omega)) rfl (fun w hw => hw.hex hlow hpre.2)) ?_
  rintro _ _ ⟨_, ⟨x_9, m_10, n_11, e_7, k_8, f_12, rfl, rfl⟩, rfl⟩
  refine JL.pure rfl (PO.assign (v := .int .i64 n_11) rfl) ?_
  refine JL.nil ?_
  refine JQ.seq ?_
  refine JC.seq ?_
  refine JC.region ?_
  refine JL.ld rfl (LO.loadK 0 (vs := [.slice x_9.a0 m_10.s.length x_9.c0, .slice x_9.a1 m_10.r.length x_9.c1, .slice x_9.a2 m_10.w.length x_9.c2]) rfl rfl Tryz.isAgg32 Tryz.sizeOf32 rfl rfl) ?_
  refine JL.pure rfl (PO.move (v := .int .i64 n_11) rfl) ?_
  refine JL.op rfl (JO.store 4 (vs := [.slice x_9.a0 m_10.s.length x_9.c0, .slice x_9.a1 m_10.r.length x_9.c1, .slice x_9.a2 m_10.w.length x_9.c2]) (cs' := [.slice x_9.a0 m_10.s.length x_9.c0, .slice x_9.a1 m_10.r.length x_9.c1, .slice x_9.a2 m_10.w.length x_9.c2]) rfl rfl rfl rfl Tryz.sizeOf32 rfl rfl (Nat.le_of_ble_eq_true rfl) rfl) ?_
  rintro _ _ rfl
  refine JL.pure rfl (PO.assign (v := .int .i64 n_11) rfl) ?_
  refine JL.nil ?_
  refine JQ.seq ?_
  refine JC.ret ?_
  refine JQ.perm (pick_perm [1, 1, 1] (A := [rC x_9.a0 x_9.c0 m_10.s, rS x_9.a1 x_9.c1 m_10.r, rS x_9.a2 x_9.c2 m_10.w]) (F := [mb b_1 x_9 m_10, mb b_2 x_9 m_10]) rfl).symm ?_
  refine Done.two (.inl rfl) rfl (RV.cell1 (LO.loadK 4 (vs := [.slice x_9.a0 m_10.s.length x_9.c0, .slice x_9.a1 m_10.r.length x_9.c1, .slice x_9.a2 m_10.w.length x_9.c2]) rfl rfl Tryz.isAgg32 Tryz.sizeOf32 rfl rfl) ⟨_, rfl⟩) (RV.tmp (v := .int .i64 n_11) rfl) (List.sublist_append_left [rC x_9.a0 x_9.c0 m_10.s, rS x_9.a1 x_9.c1 m_10.r, rS x_9.a2 x_9.c2 m_10.w] [mb b_1 x_9 m_10, mb b_2 x_9 m_10]) ?_
  exact ⟨x_9, m_10, n_11, (by simp only [if_true, e_7, if_true, if_false, Bool.false_eq_true, Bool.not_true, Bool.not_false]; (repeat (first | rw [if_pos (by omega)] | rw [if_neg (by omega)])); all_goals (first | rfl | simp only [if_true, if_false, Bool.false_eq_true, Bool.not_true, Bool.not_false, e_7])), (k_8.mono (by omega) (by omega)), (by first | omega | (simp only [List.length_append, List.length_cons, List.length_nil, List.length_take, List.length_drop]; omega)), rfl, rfl⟩

theorem N_brought (x y : Nat) :
    Ct Tryz.prog 216 [.int .i64 ((x : Nat) : Int), .int .i64 0, .int .i64 ((y : Nat) : Int)] [] (fun _ => True) (fun v A' => v = .int .i64 ((min x y : Nat) : Int) ∧ A' = []) := by
  refine Ct.intro Tryz.func216 rfl Tryz.ntmps216 (Nat.le_of_ble_eq_true rfl) fun w0 hpre => ?_
  refine JC.seq ?_
  refine JC.region ?_
  refine JL.pure rfl (PO.assign (v := .int .i64 0) rfl) ?_
  refine JL.nil ?_
  refine JQ.seq ?_
  refine JC.seq ?_
  refine JC.seq ?_
  refine JC.region ?_
  refine JL.pure rfl (PO.move (v := .int .i64 ((y : Nat) : Int)) rfl) ?_
  refine JL.pure rfl (PO.move (v := .int .i64 0) rfl) ?_
  refine JL.pure rfl (PO.lss rfl rfl) ?_
  refine JL.pure rfl (PO.move (v := .bool (decide (((y : Nat) : Int) < 0))) rfl) ?_
  by_cases h_1 : ((y : Nat) : Int) < 0
  · skip
    refine JL.guardOff (b := true) rfl rfl rfl (congrArg Value.bool (decide_eq_true h_1)) ?_
    refine JL.guardOff (b := true) rfl rfl rfl (congrArg Value.bool (decide_eq_true h_1)) ?_
    refine JL.guardOff (b := true) rfl rfl rfl (congrArg Value.bool (decide_eq_true h_1)) ?_
    refine JL.pure rfl (PO.pickT (v := .bool true) (congrArg Value.bool (decide_eq_true h_1)) rfl) ?_
    refine JL.nil ?_
    refine JQ.seq ?_
    refine JC.condT (congrArg Value.bool rfl) ?_
    refine JC.seq ?_
    refine JC.region ?_
    refine JL.pure rfl (PO.move (v := .int .i64 0) rfl) ?_
    refine JL.pure rfl (PO.assign (v := .int .i64 0) rfl) ?_
    refine JL.nil ?_
    refine JQ.seq ?_
    refine JC.ret ?_
    refine JQ.thenRet ?_
    refine Done.one (.inl rfl) rfl (RV.tmp (v := .int .i64 0) rfl) (List.nil_sublist _) ?_
    refine ⟨?_, rfl⟩
    exact congrArg (Value.int .i64) (by omega)
  · skip
    refine JL.guardOn rfl rfl rfl (congrArg Value.bool (decide_eq_false h_1)) (JO.ofLO (LO.pure (PO.move (v := .int .i64 ((x : Nat) : Int)) rfl))) ?_
    rintro _ _ ⟨rfl, rfl⟩
    refine JL.guardOn rfl rfl rfl (congrArg Value.bool (decide_eq_false h_1)) (JO.ofLO (LO.pure (PO.move (v := .int .i64 0) rfl))) ?_
    rintro _ _ ⟨rfl, rfl⟩
    refine JL.guardOn rfl rfl rfl (congrArg Value.bool (decide_eq_false h_1)) (JO.ofLO (LO.pure (PO.lss rfl rfl))) ?_
    rintro _ _ ⟨rfl, rfl⟩
    refine JL.pure rfl (PO.pickF (v := .bool (decide (((x : Nat) : Int) < 0))) (congrArg Value.bool (decide_eq_false h_1)) rfl) ?_
    refine JL.nil ?_
    refine JQ.seq ?_
    by_cases h_2 : ((x : Nat) : Int) < 0
    · skip
      refine JC.condT (congrArg Value.bool (decide_eq_true h_2)) ?_
      refine JC.seq ?_
      refine JC.region ?_
      refine JL.pure rfl (PO.move (v := .int .i64 0) rfl) ?_
      refine JL.pure rfl (PO.assign (v := .int .i64 0) rfl) ?_
      refine JL.nil ?_
      refine JQ.seq ?_
      refine JC.ret ?_
      refine JQ.thenRet ?_
      refine Done.one (.inl rfl) rfl (RV.tmp (v := .int .i64 0) rfl) (List.nil_sublist _) ?_
      refine ⟨?_, rfl⟩
      exact congrArg (Value.int .i64) (by omega)
    · skip
      refine JC.condF (congrArg Value.bool (decide_eq_false h_2)) ?_
      refine JC.skip ?_
      refine JQ.seq ?_
      refine JC.seq ?_
      refine JC.seq ?_
      refine JC.region ?_
      refine JL.pure rfl (PO.move (v := .int .i64 ((x : Nat) : Int)) rfl) ?_
      refine JL.pure rfl (PO.move (v := .int .i64 ((y : Nat) : Int)) rfl) ?_
      refine JL.pure rfl (PO.gtr rfl rfl) ?_
      refine JL.nil ?_
      refine JQ.seq ?_
      by_cases h_3 : ((y : Nat) : Int) < ((x : Nat) : Int)
      · skip
        refine JC.condT (congrArg Value.bool (decide_eq_true h_3)) ?_
        refine JC.seq ?_
        refine JC.region ?_
        refine JL.pure rfl (PO.move (v := .int .i64 ((y : Nat) : Int)) rfl) ?_
        refine JL.pure rfl (PO.assign (v := .int .i64 ((y : Nat) : Int)) rfl) ?_
        refine JL.nil ?_
        refine JQ.seq ?_
        refine JC.ret ?_
        refine JQ.thenRet ?_
        refine Done.one (.inl rfl) rfl (RV.tmp (v := .int .i64 ((y : Nat) : Int)) rfl) (List.nil_sublist _) ?_
        refine ⟨?_, rfl⟩
        exact congrArg (Value.int .i64) (by omega)
      · skip
        refine JC.condF (congrArg Value.bool (decide_eq_false h_3)) ?_
        refine JC.skip ?_
        refine JQ.seq ?_
        refine JC.seq ?_
        refine JC.region ?_
        refine JL.pure rfl (PO.move (v := .int .i64 ((x : Nat) : Int)) rfl) ?_
        refine JL.pure rfl (PO.assign (v := .int .i64 ((x : Nat) : Int)) rfl) ?_
        refine JL.nil ?_
        refine JQ.seq ?_
        refine JC.ret ?_
        refine Done.one (.inl rfl) rfl (RV.tmp (v := .int .i64 ((x : Nat) : Int)) rfl) (List.nil_sublist _) ?_
        refine ⟨?_, rfl⟩
        exact congrArg (Value.int .i64) (by omega)

theorem N_cutFile (p : Nat) (x : MA) (m : MS) {S T : Nat} (hk : m.ok S T) (hS : S ≤ 50000000) (hT : T ≤ 50000000) (id : Int) (n : Int) (hid : -9223372036854775808 ≤ id ∧ id ≤ 9223372036854775807) (hn : -9223372036854775808 ≤ n ∧ n ≤ 9223372036854775807) :
    Ct Tryz.prog 136 [.pointer (some ⟨p, 0, none⟩), .int .i64 id, .int .i64 n] (mb p x m :: mr x m) (fun w => HexOk w) (fun v A' => ∃ x' m' r0, MS.cutFile m id n = (m', r0) ∧ m'.ok (S + 3) (T + 140) ∧ (0 ≤ r0 ∧ r0 ≤ 9) ∧ v = .int .i64 r0 ∧ A' = mb p x' m' :: mr x' m') := by
  refine Ct.introL Tryz.func136 rfl Tryz.ntmps136 (Nat.le_of_ble_eq_true rfl) fun w0 hpre hlow => ?_
  refine JC.seq ?_
  refine JC.region ?_
  refine JL.pure rfl (PO.assign (v := .int .i64 0) rfl) ?_
  refine JL.nil ?_
  refine JQ.seq ?_
  refine JC.seq ?_
  refine JC.region ?_
  refine JL.pure rfl (PO.move (v := .pointer (some ⟨p, 0, none⟩)) rfl) ?_
  refine JL.pure rfl (PO.move (v := .int .i64 id) rfl) ?_
  refine JL.op rfl (JO.call [] Tryz.call205 rfl (N_sizeKey id (by omega)) rfl (fun _ _ => trivial)) ?_
  rintro _ _ ⟨_, ⟨u_3, e_1, f_4, rfl, rfl⟩, rfl⟩
  refine JL.op rfl (JO.call [0, 0, 0, 0] Tryz.call170 rfl (N_num p x m hk (by omega) (by omega) u_3) rfl (fun _ _ => trivial)) ?_
  rintro _ _ ⟨_, ⟨x_7, m_8, n_9, e_5, k_6, f_10, rfl, rfl⟩, rfl⟩
  refine JL.pure rfl (PO.assign (v := .int .i64 n_9) rfl) ?_
  refine JL.nil ?_
  refine JQ.seq ?_
  refine JC.seq ?_
  refine JC.seq ?_
  refine JC.region ?_
  refine JL.pure rfl (PO.move (v := .int .i64 n) rfl) ?_
  refine JL.pure rfl (PO.move (v := .int .i64 n_9) rfl) ?_
  refine JL.op rfl (JO.call [] Tryz.call143 rfl (C_within n 0 n_9) rfl (fun _ _ => trivial)) ?_
  rintro _ _ ⟨_, ⟨rfl, rfl⟩, rfl⟩
  refine JL.pure rfl (PO.not rfl) ?_
  refine JL.nil ?_
  refine JQ.seq ?_
  rcases Bool.eq_false_or_eq_true (decide (0 ≤ n) && decide (n ≤ n_9)) with h_11 | h_11
  · skip
    have h_11d := h_11
    simp only [Bool.and_eq_true, Bool.and_eq_false_iff, decide_eq_true_eq, decide_eq_false_iff_not] at h_11d
    obtain ⟨a, hat⟩ : ∃ a : Nat, n = ((a : Nat) : Int) := ⟨n.toNat, by omega⟩
    obtain ⟨Z, hZ⟩ : ∃ Z : Nat, n_9 = ((Z : Nat) : Int) := ⟨n_9.toNat, by omega⟩
    refine JC.condF (congrArg Value.bool (congrArg Bool.not h_11)) ?_
    refine JC.skip ?_
    refine JQ.seq ?_
    refine JC.seq ?_
    refine JC.region ?_
    refine JL.pure rfl (PO.move (v := .int .i64 ((a : Nat) : Int)) (congrArg (Value.int .i64) hat)) ?_
    refine JL.pure rfl (PO.quoN (c := ((a / 8 : Nat) : Int)) rfl rfl (by omega) (by omega) (by omega) (wr (by omega))) ?_
    refine JL.pure rfl (PO.assign (v := .int .i64 ((a / 8 : Nat) : Int)) rfl) ?_
    refine JL.nil ?_
    refine JQ.seq ?_
    refine JC.seq ?_
    refine JC.seq ?_
    refine JC.region ?_
    refine JL.pure rfl (PO.move (v := .int .i64 ((a : Nat) : Int)) (congrArg (Value.int .i64) hat)) ?_
    refine JL.pure rfl (PO.remN (c := ((a % 8 : Nat) : Int)) rfl rfl (by omega) (by omega) (by omega)) ?_
    refine JL.pure rfl (PO.gtr rfl rfl) ?_
    refine JL.nil ?_
    refine JQ.seq ?_
    by_cases h_12 : 0 < ((a % 8 : Nat) : Int)
    · skip
      refine JC.condT (congrArg Value.bool (decide_eq_true h_12)) ?_
      refine JC.seq ?_
      refine JC.region ?_
      refine JL.pure rfl (PO.move (v := .pointer (some ⟨p, 0, none⟩)) rfl) ?_
      refine JL.pure rfl (PO.move (v := .int .i64 id) rfl) ?_
      refine JL.pure rfl (PO.move (v := .int .i64 ((a / 8 : Nat) : Int)) rfl) ?_
      refine JL.op rfl (JO.call [0, 0, 0, 0] Tryz.call207 rfl (N_block p x_7 m_8 k_6 (by omega) (by omega) id ((a / 8 : Nat) : Int) (by omega) (by omega)) rfl (fun w hw => hw.hex hlow hpre)) ?_
      rintro _ _ ⟨_, ⟨x_15, m_16, u_17, e_13, k_14, f_18, rfl, rfl⟩, rfl⟩
      refine JL.pure rfl (PO.assign (v := str u_17) rfl) ?_
      refine JL.nil ?_
      refine JQ.seq ?_
      refine JC.seq ?_
      refine JC.regionA [] 11 mixed (by simp) ?_
      refine JA.takeP 0 rfl (by kernel_rfl) (NP.th (NP.th NP.body)) (by kernel_rfl) (by kernel_rfl) rfl (PO.move (v := .pointer (some ⟨p, 0, none⟩)) rfl) ?_
      refine JA.takeP 1 rfl (by kernel_rfl) (NP.th (NP.th NP.body)) (by kernel_rfl) (by kernel_rfl) rfl (PO.move (v := .int .i64 id) rfl) ?_
      refine JA.takeP 2 rfl (by kernel_rfl) (NP.th (NP.th NP.body)) (by kernel_rfl) (by kernel_rfl) rfl (PO.move (v := .int .i64 ((a / 8 : Nat) : Int)) rfl) ?_
      refine JA.takeP 4 rfl (by kernel_rfl) (NP.th (NP.th NP.body)) (by kernel_rfl) (by kernel_rfl) rfl (PO.move (v := str u_17) rfl) ?_
      refine JA.takeP 5 rfl (by kernel_rfl) (NP.th (NP.th NP.body)) (by kernel_rfl) (by kernel_rfl) rfl (PO.move (v := .int .i64 ((a : Nat) : Int)) (congrArg (Value.int .i64) hat)) ?_
      refine JA.takeP 6 rfl (by kernel_rfl) (NP.th (NP.th NP.body)) (by kernel_rfl) (by kernel_rfl) rfl (PO.remN (c := ((a % 8 : Nat) : Int)) rfl rfl (by omega) (by omega) (by omega)) ?_
      refine JA.takeP 7 rfl (by kernel_rfl) (NP.th (NP.th NP.body)) (by kernel_rfl) (by kernel_rfl) rfl (PO.move (v := str u_17) rfl) ?_
      refine JA.takeP 8 rfl (by kernel_rfl) (NP.th (NP.th NP.body)) (by kernel_rfl) (by kernel_rfl) rfl (PO.lenS Tryz.underlying9 rfl) ?_
      refine JA.takeP 9 rfl (by kernel_rfl) (NP.th (NP.th NP.body)) (by kernel_rfl) (by kernel_rfl) rfl (PO.min2 (c := ((min (a % 8) u_17.length : Nat) : Int)) rfl rfl (by omega)) ?_
      refine JA.takeP 10 rfl (by kernel_rfl) (NP.th (NP.th NP.body)) (by kernel_rfl) (by kernel_rfl) rfl (PO.sliceSh (j := (min (a % 8) u_17.length)) Tryz.underlying9 rfl rfl (by omega)) ?_
      refine JA.one (i := 3) (by kernel_rfl) ?_
      refine JX.op rfl rfl (JO.call [] Tryz.call249 rfl (N_blockKey id ((a / 8 : Nat) : Int) (by omega) (by omega)) rfl (fun _ _ => trivial)) ?_
      rintro _ _ ⟨_, ⟨u_53, e_51, f_54, rfl, rfl⟩, rfl⟩
      refine ⟨(fun _ h => by cases h), ?_⟩
      refine JA.one (i := 11) (by kernel_rfl) ?_
      refine JX.late rfl rfl (by decide) (by kernel_rfl) (JO.call [] Tryz.call250 rfl (N_hexOf (u_17.take (min (a % 8) u_17.length)) (by first | omega | (simp only [List.length_append, List.length_cons, List.length_nil, List.length_take, List.length_drop]; omega))) rfl (fun _ _ => trivial)) ?_
      rintro _ _ ⟨_, ⟨u_61, e_59, f_62, rfl, rfl⟩, rfl⟩
      refine JA.one (i := 12) (by kernel_rfl) ?_
      refine JX.last rfl rfl (by decide) (by kernel_rfl) (JO.call [0, 0, 0, 0] Tryz.call240 rfl (N_lay p x_15 m_16 k_14 (by omega) (by omega) u_53 u_61 (by omega)) rfl (fun _ _ => trivial)) ?_
      rintro _ _ ⟨_, ⟨x_69, m_70, e_67, k_68, rfl, rfl⟩, rfl⟩
      refine JQ.seq ?_
      refine JC.region ?_
      refine JL.pure rfl (PO.move (v := .int .i64 ((a / 8 : Nat) : Int)) rfl) ?_
      refine JL.pure rfl (PO.add (c := (((a / 8) + 1 : Nat) : Int)) rfl rfl (wr (by omega))) ?_
      refine JL.pure rfl (PO.assign (v := .int .i64 (((a / 8) + 1 : Nat) : Int)) rfl) ?_
      refine JL.nil ?_
      refine JQ.seq ?_
      refine JC.seq ?_
      refine JC.block ?_
      refine JC.loop (fun k_ e_ L_ => ∃ p_ : Nat, ∃ x1 : MA, ∃ mm : MS, (mm.ok (S + 1) (T + 4 + p_)) ∧ (p_ ≤ 126) ∧ (MS.cutL id Z (130 - p_) p_ mm = MS.cutL id Z (130 - ((a / 8) + 1)) ((a / 8) + 1) m_70) ∧ e_ 0 = .pointer (some ⟨p, 0, none⟩) ∧ e_ 1 = .int .i64 id ∧ e_ 2 = .int .i64 ((a : Nat) : Int) ∧ e_ 6 = .int .i64 0 ∧ e_ 7 = .int .i64 ((Z : Nat) : Int) ∧ e_ 8 = .int .i64 ((p_ : Nat) : Int) ∧ L_ = [mb p x1 mm, rC x1.a0 x1.c0 mm.s, rS x1.a1 x1.c1 mm.r, rS x1.a2 x1.c2 mm.w] ∧ k_ = 130 - p_) _ ⟨((a / 8) + 1), x_69, m_70, (k_68.mono (by omega) (by omega)), (by omega), rfl, rfl, rfl, (congrArg (Value.int .i64) hat), rfl, (congrArg (Value.int .i64) hZ), rfl, rfl, rfl⟩ ?_
      rintro _ e_71 _ ⟨p_, x1, mm, hkmm, hp0, hR, he_72, he_73, he_74, he_75, he_76, he_77, rfl, rfl⟩
      refine JC.seq ?_
      refine JC.seq ?_
      refine JC.region ?_
      refine JL.pure rfl (PO.move (v := .int .i64 ((p_ : Nat) : Int)) he_77) ?_
      refine JL.pure rfl (PO.mul (c := ((p_ * 8 : Nat) : Int)) rfl rfl (wr (by omega))) ?_
      refine JL.pure rfl (PO.move (v := .int .i64 ((Z : Nat) : Int)) he_76) ?_
      refine JL.pure rfl (PO.lss rfl rfl) ?_
      refine JL.nil ?_
      refine JQ.seq ?_
      by_cases h_78 : ((p_ * 8 : Nat) : Int) < ((Z : Nat) : Int)
      · skip
        refine JC.condT (congrArg Value.bool (decide_eq_true h_78)) ?_
        refine JC.skip ?_
        refine JQ.seq ?_
        refine JC.seq ?_
        refine JC.block ?_
        refine JC.region ?_
        refine JL.pure rfl (PO.move (v := .pointer (some ⟨p, 0, none⟩)) he_72) ?_
        refine JL.pure rfl (PO.move (v := .int .i64 id) he_73) ?_
        refine JL.pure rfl (PO.move (v := .int .i64 ((p_ : Nat) : Int)) he_77) ?_
        refine JL.op rfl (JO.call [] Tryz.call249 rfl (N_blockKey id ((p_ : Nat) : Int) (by omega) (by omega)) rfl (fun _ _ => trivial)) ?_
        rintro _ _ ⟨_, ⟨u_81, e_79, f_82, rfl, rfl⟩, rfl⟩
        refine JL.op rfl (JO.call [0, 0, 0, 0] Tryz.call240 rfl (N_layNil p x1 mm hkmm (by omega) (by omega) u_81 (by omega)) rfl (fun _ _ => trivial)) ?_
        rintro _ _ ⟨_, ⟨x_85, m_86, e_83, k_84, rfl, rfl⟩, rfl⟩
        refine JL.nil ?_
        refine JQ.blockN ?_
        refine JQ.seq ?_
        refine JC.region ?_
        refine JL.pure rfl (PO.move (v := .int .i64 ((p_ : Nat) : Int)) he_77) ?_
        refine JL.pure rfl (PO.add (c := ((p_ + 1 : Nat) : Int)) rfl rfl (wr (by omega))) ?_
        refine JL.pure rfl (PO.assign (v := .int .i64 ((p_ + 1 : Nat) : Int)) rfl) ?_
        refine JL.nil ?_
        refine JQ.pick [0, 0, 0, 0] (A := [mb p x_85 m_86, rC x_85.a0 x_85.c0 m_86.s, rS x_85.a1 x_85.c1 m_86.r, rS x_85.a2 x_85.c2 m_86.w]) rfl ?_
        refine JQ.again (130 - (p_ + 1)) (by omega) ⟨(p_ + 1), x_85, m_86, (k_84.mono (by omega) (by omega)), (by omega), (by rw [show 130 - p_ = (130 - (p_ + 1)) + 1 by omega, MS.cutL, if_pos (by omega)] at hR; simp only [MS.blockKey, e_1, e_5, e_13, e_51, e_59, e_67, e_79, e_83] at hR; exact hR), he_72, he_73, he_74, he_75, he_76, rfl, rfl, rfl⟩
      · skip
        rw [MS.cutL_stop (by omega)] at hR
        have hRE := hR.symm
        refine JC.condF (congrArg Value.bool (decide_eq_false h_78)) ?_
        refine JC.exit ?_
        refine JQ.thenExit ?_
        refine JQ.thenExit ?_
        refine JQ.blockE ?_
        refine JQ.seq ?_
        refine JC.seq ?_
        refine JC.region ?_
        refine JL.pure rfl (PO.move (v := .pointer (some ⟨p, 0, none⟩)) he_72) ?_
        refine JL.pure rfl (PO.move (v := .int .i64 id) he_73) ?_
        refine JL.op rfl (JO.call [] Tryz.call205 rfl (N_sizeKey id (by omega)) rfl (fun _ _ => trivial)) ?_
        rintro _ _ ⟨_, ⟨u_89, e_87, f_90, rfl, rfl⟩, rfl⟩
        have hqe_87 := e_1.symm.trans e_87
        subst hqe_87
        refine JL.pure rfl (PO.move (v := .int .i64 ((a : Nat) : Int)) he_74) ?_
        refine JL.op rfl (JO.call [0, 0, 0, 0] Tryz.call241 rfl (N_setNum p x1 mm hkmm (by omega) (by omega) u_3 ((a : Nat) : Int) (by omega) (by omega)) rfl (fun _ _ => trivial)) ?_
        rintro _ _ ⟨_, ⟨x_93, m_94, e_91, k_92, rfl, rfl⟩, rfl⟩
        refine JL.nil ?_
        refine JQ.seq ?_
        refine JC.seq ?_
        refine JC.region ?_
        refine JL.pure rfl (PO.assign (v := .int .i64 0) rfl) ?_
        refine JL.nil ?_
        refine JQ.seq ?_
        refine JC.ret ?_
        refine Done.one (.inl rfl) rfl (RV.tmp (v := .int .i64 0) rfl) (List.Sublist.refl _) ?_
        exact ⟨x_93, m_94, 0, (by simp only [MS.cutFile, Int.toNat_natCast, true_or, or_true, false_or, or_false, MS.blockKey, MS.sizeOf, e_1, e_5, h_11, hat, hZ, h_12, e_13, e_51, e_59, e_67, h_78, hRE, e_91, if_true, if_false, Bool.false_eq_true, Bool.not_true, Bool.not_false]; (repeat (first | rw [if_pos (by omega)] | rw [if_neg (by omega)])); all_goals (first | rfl | simp only [if_true, if_false, Bool.false_eq_true, Bool.not_true, Bool.not_false, e_1, e_5, h_11, hat, hZ, h_12, e_13, e_51, e_59, e_67, h_78, hRE, e_91])), (k_92.mono (by omega) (by omega)), (by first | omega | (simp only [List.length_append, List.length_cons, List.length_nil, List.length_take, List.length_drop]; omega)), rfl, rfl⟩
    · skip
      refine JC.condF (congrArg Value.bool (decide_eq_false h_12)) ?_
      refine JC.skip ?_
      refine JQ.seq ?_
      refine JC.seq ?_
      refine JC.block ?_
      refine JC.loop (fun k_ e_ L_ => ∃ p_ : Nat, ∃ x1 : MA, ∃ mm : MS, (mm.ok (S + 1) (T + 4 + p_)) ∧ (p_ ≤ 126) ∧ (MS.cutL id Z (130 - p_) p_ mm = MS.cutL id Z (130 - (a / 8)) (a / 8) m_8) ∧ e_ 0 = .pointer (some ⟨p, 0, none⟩) ∧ e_ 1 = .int .i64 id ∧ e_ 2 = .int .i64 ((a : Nat) : Int) ∧ e_ 6 = .int .i64 0 ∧ e_ 7 = .int .i64 ((Z : Nat) : Int) ∧ e_ 8 = .int .i64 ((p_ : Nat) : Int) ∧ L_ = [mb p x1 mm, rC x1.a0 x1.c0 mm.s, rS x1.a1 x1.c1 mm.r, rS x1.a2 x1.c2 mm.w] ∧ k_ = 130 - p_) _ ⟨(a / 8), x_7, m_8, (k_6.mono (by omega) (by omega)), (by omega), rfl, rfl, rfl, (congrArg (Value.int .i64) hat), rfl, (congrArg (Value.int .i64) hZ), rfl, rfl, rfl⟩ ?_
      rintro _ e_95 _ ⟨p_, x1, mm, hkmm, hp0, hR, he_96, he_97, he_98, he_99, he_100, he_101, rfl, rfl⟩
      refine JC.seq ?_
      refine JC.seq ?_
      refine JC.region ?_
      refine JL.pure rfl (PO.move (v := .int .i64 ((p_ : Nat) : Int)) he_101) ?_
      refine JL.pure rfl (PO.mul (c := ((p_ * 8 : Nat) : Int)) rfl rfl (wr (by omega))) ?_
      refine JL.pure rfl (PO.move (v := .int .i64 ((Z : Nat) : Int)) he_100) ?_
      refine JL.pure rfl (PO.lss rfl rfl) ?_
      refine JL.nil ?_
      refine JQ.seq ?_
      by_cases h_102 : ((p_ * 8 : Nat) : Int) < ((Z : Nat) : Int)
      · skip
        refine JC.condT (congrArg Value.bool (decide_eq_true h_102)) ?_
        refine JC.skip ?_
        refine JQ.seq ?_
        refine JC.seq ?_
        refine JC.block ?_
        refine JC.region ?_
        refine JL.pure rfl (PO.move (v := .pointer (some ⟨p, 0, none⟩)) he_96) ?_
        refine JL.pure rfl (PO.move (v := .int .i64 id) he_97) ?_
        refine JL.pure rfl (PO.move (v := .int .i64 ((p_ : Nat) : Int)) he_101) ?_
        refine JL.op rfl (JO.call [] Tryz.call249 rfl (N_blockKey id ((p_ : Nat) : Int) (by omega) (by omega)) rfl (fun _ _ => trivial)) ?_
        rintro _ _ ⟨_, ⟨u_105, e_103, f_106, rfl, rfl⟩, rfl⟩
        refine JL.op rfl (JO.call [0, 0, 0, 0] Tryz.call240 rfl (N_layNil p x1 mm hkmm (by omega) (by omega) u_105 (by omega)) rfl (fun _ _ => trivial)) ?_
        rintro _ _ ⟨_, ⟨x_109, m_110, e_107, k_108, rfl, rfl⟩, rfl⟩
        refine JL.nil ?_
        refine JQ.blockN ?_
        refine JQ.seq ?_
        refine JC.region ?_
        refine JL.pure rfl (PO.move (v := .int .i64 ((p_ : Nat) : Int)) he_101) ?_
        refine JL.pure rfl (PO.add (c := ((p_ + 1 : Nat) : Int)) rfl rfl (wr (by omega))) ?_
        refine JL.pure rfl (PO.assign (v := .int .i64 ((p_ + 1 : Nat) : Int)) rfl) ?_
        refine JL.nil ?_
        refine JQ.pick [0, 0, 0, 0] (A := [mb p x_109 m_110, rC x_109.a0 x_109.c0 m_110.s, rS x_109.a1 x_109.c1 m_110.r, rS x_109.a2 x_109.c2 m_110.w]) rfl ?_
        refine JQ.again (130 - (p_ + 1)) (by omega) ⟨(p_ + 1), x_109, m_110, (k_108.mono (by omega) (by omega)), (by omega), (by rw [show 130 - p_ = (130 - (p_ + 1)) + 1 by omega, MS.cutL, if_pos (by omega)] at hR; simp only [MS.blockKey, e_1, e_5, e_103, e_107] at hR; exact hR), he_96, he_97, he_98, he_99, he_100, rfl, rfl, rfl⟩
      · skip
        rw [MS.cutL_stop (by omega)] at hR
        have hRE := hR.symm
        refine JC.condF (congrArg Value.bool (decide_eq_false h_102)) ?_
        refine JC.exit ?_
        refine JQ.thenExit ?_
        refine JQ.thenExit ?_
        refine JQ.blockE ?_
        refine JQ.seq ?_
        refine JC.seq ?_
        refine JC.region ?_
        refine JL.pure rfl (PO.move (v := .pointer (some ⟨p, 0, none⟩)) he_96) ?_
        refine JL.pure rfl (PO.move (v := .int .i64 id) he_97) ?_
        refine JL.op rfl (JO.call [] Tryz.call205 rfl (N_sizeKey id (by omega)) rfl (fun _ _ => trivial)) ?_
        rintro _ _ ⟨_, ⟨u_113, e_111, f_114, rfl, rfl⟩, rfl⟩
        have hqe_111 := e_1.symm.trans e_111
        subst hqe_111
        refine JL.pure rfl (PO.move (v := .int .i64 ((a : Nat) : Int)) he_98) ?_
        refine JL.op rfl (JO.call [0, 0, 0, 0] Tryz.call241 rfl (N_setNum p x1 mm hkmm (by omega) (by omega) u_3 ((a : Nat) : Int) (by omega) (by omega)) rfl (fun _ _ => trivial)) ?_
        rintro _ _ ⟨_, ⟨x_117, m_118, e_115, k_116, rfl, rfl⟩, rfl⟩
        refine JL.nil ?_
        refine JQ.seq ?_
        refine JC.seq ?_
        refine JC.region ?_
        refine JL.pure rfl (PO.assign (v := .int .i64 0) rfl) ?_
        refine JL.nil ?_
        refine JQ.seq ?_
        refine JC.ret ?_
        refine Done.one (.inl rfl) rfl (RV.tmp (v := .int .i64 0) rfl) (List.Sublist.refl _) ?_
        exact ⟨x_117, m_118, 0, (by simp only [MS.cutFile, Int.toNat_natCast, true_or, or_true, false_or, or_false, MS.blockKey, MS.sizeOf, e_1, e_5, h_11, hat, hZ, h_12, h_102, hRE, e_115, if_true, if_false, Bool.false_eq_true, Bool.not_true, Bool.not_false]; (repeat (first | rw [if_pos (by omega)] | rw [if_neg (by omega)])); all_goals (first | rfl | simp only [if_true, if_false, Bool.false_eq_true, Bool.not_true, Bool.not_false, e_1, e_5, h_11, hat, hZ, h_12, h_102, hRE, e_115])), (k_116.mono (by omega) (by omega)), (by first | omega | (simp only [List.length_append, List.length_cons, List.length_nil, List.length_take, List.length_drop]; omega)), rfl, rfl⟩
  · skip
    have h_11d := h_11
    simp only [Bool.and_eq_true, Bool.and_eq_false_iff, decide_eq_true_eq, decide_eq_false_iff_not] at h_11d
    refine JC.condT (congrArg Value.bool (congrArg Bool.not h_11)) ?_
    refine JC.seq ?_
    refine JC.region ?_
    refine JL.pure rfl (PO.assign (v := .int .i64 4) rfl) ?_
    refine JL.nil ?_
    refine JQ.seq ?_
    refine JC.ret ?_
    refine JQ.thenRet ?_
    refine Done.one (.inl rfl) rfl (RV.tmp (v := .int .i64 4) rfl) (List.Sublist.refl _) ?_
    exact ⟨x_7, m_8, 4, (by simp only [MS.cutFile, Int.toNat_natCast, true_or, or_true, false_or, or_false, MS.blockKey, MS.sizeOf, e_1, e_5, h_11, if_true, if_false, Bool.false_eq_true, Bool.not_true, Bool.not_false]; (repeat (first | rw [if_pos (by omega)] | rw [if_neg (by omega)])); all_goals (first | rfl | simp only [if_true, if_false, Bool.false_eq_true, Bool.not_true, Bool.not_false, e_1, e_5, h_11])), (k_6.mono (by omega) (by omega)), (by first | omega | (simp only [List.length_append, List.length_cons, List.length_nil, List.length_take, List.length_drop]; omega)), rfl, rfl⟩

theorem M_cutFile (x : MA) (m : MS) {S T : Nat} (hk : m.ok S T) (hS : S ≤ 50000000) (hT : T ≤ 50000000) (id : Int) (n : Int) (hid : -9223372036854775808 ≤ id ∧ id ≤ 9223372036854775807) (hn : -9223372036854775808 ≤ n ∧ n ≤ 9223372036854775807) :
    Ct Tryz.prog 135 [mv x m, .int .i64 id, .int .i64 n] (mr x m) (fun _ => True) (fun v A' => ∃ x' m' r0, MS.cutFile m id n = (m', r0) ∧ m'.ok (S + 3) (T + 140) ∧ (0 ≤ r0 ∧ r0 ≤ 9) ∧ v = .tuple #[mv x' m', .int .i64 r0] ∧ A' = mr x' m') := by
  refine Ct.intro Tryz.func135 rfl Tryz.ntmps135 (Nat.le_of_ble_eq_true rfl) fun w0 hpre => ?_
  refine JC.seq ?_
  refine JC.region ?_
  refine JL.op rfl (JO.box (cs := [.slice x.a0 m.s.length x.c0, .slice x.a1 m.r.length x.c1, .slice x.a2 m.w.length x.c2]) rfl rfl) ?_
  rintro _ _ ⟨b_1, rfl, rfl⟩
  refine JL.op rfl (JO.alloc (z := .agg #[.slice none 0 0, .slice none 0 0, .slice none 0 0]) (cs := [.slice none 0 0, .slice none 0 0, .slice none 0 0]) Tryz.zeroValue32 rfl) ?_
  rintro _ _ ⟨b_2, rfl, rfl⟩
  refine JL.pure rfl (PO.assign (v := .int .i64 0) rfl) ?_
  refine JL.nil ?_
  refine JQ.seq ?_
  refine JC.seq ?_
  refine JC.region ?_
  refine JL.ld rfl (LO.loadK 1 (vs := [.slice x.a0 m.s.length x.c0, .slice x.a1 m.r.length x.c1, .slice x.a2 m.w.length x.c2]) rfl rfl Tryz.isAgg32 Tryz.sizeOf32 rfl rfl) ?_
  refine JL.pure rfl (PO.move (v := .int .i64 id) rfl) ?_
  refine JL.op rfl (JO.call [2, 2, 2] Tryz.call206 rfl (M_sizeFile x m hk (by omega) (by omega) id (by omega)) rfl (fun _ _ => trivial)) ?_
  rintro _ _ ⟨_, ⟨x_5, m_6, n_7, e_3, k_4, f_8, rfl, rfl⟩, rfl⟩
  refine JL.pure rfl (PO.move (v := .tuple #[mv x_5 m_6, .int .i64 n_7]) rfl) ?_
  refine JL.pure rfl (PO.extract (v := mv x_5 m_6) rfl rfl) ?_
  refine JL.pure rfl (PO.extract (v := .int .i64 n_7) rfl rfl) ?_
  refine JL.op rfl (JO.store 4 (vs := [.slice x_5.a0 m_6.s.length x_5.c0, .slice x_5.a1 m_6.r.length x_5.c1, .slice x_5.a2 m_6.w.length x_5.c2]) (cs' := [.slice x_5.a0 m_6.s.length x_5.c0, .slice x_5.a1 m_6.r.length x_5.c1, .slice x_5.a2 m_6.w.length x_5.c2]) rfl rfl rfl rfl Tryz.sizeOf32 rfl rfl (Nat.le_of_ble_eq_true rfl) rfl) ?_
  rintro _ _ rfl
  refine JL.pure rfl (PO.assign (v := .int .i64 n_7) rfl) ?_
  refine JL.nil ?_
  refine JQ.seq ?_
  refine JC.seq ?_
  refine JC.seq ?_
  refine JC.region ?_
  refine JL.pure rfl (PO.move (v := .int .i64 n) rfl) ?_
  refine JL.pure rfl (PO.move (v := .int .i64 n_7) rfl) ?_
  refine JL.op rfl (JO.call [] Tryz.call144 rfl (C_l01In n 0 n_7) rfl (fun _ _ => trivial)) ?_
  rintro _ _ ⟨_, ⟨rfl, rfl⟩, rfl⟩
  refine JL.pure rfl (PO.not rfl) ?_
  refine JL.nil ?_
  refine JQ.seq ?_
  rcases Bool.eq_false_or_eq_true (decide (0 ≤ n) && decide (n ≤ n_7)) with h_9 | h_9
  · skip
    have h_9d := h_9
    simp only [Bool.and_eq_true, Bool.and_eq_false_iff, decide_eq_true_eq, decide_eq_false_iff_not] at h_9d
    obtain ⟨a, hat⟩ : ∃ a : Nat, n = ((a : Nat) : Int) := ⟨n.toNat, by omega⟩
    obtain ⟨Z, hZ⟩ : ∃ Z : Nat, n_7 = ((Z : Nat) : Int) := ⟨n_7.toNat, by omega⟩
    refine JC.condF (congrArg Value.bool (congrArg Bool.not h_9)) ?_
    refine JC.skip ?_
    refine JQ.seq ?_
    refine JC.seq ?_
    refine JC.region ?_
    refine JL.pure rfl (PO.move (v := .int .i64 ((a : Nat) : Int)) (congrArg (Value.int .i64) hat)) ?_
    refine JL.pure rfl (PO.quoN (c := ((a / 8 : Nat) : Int)) rfl rfl (by omega) (by omega) (by omega) (wr (by omega))) ?_
    refine JL.pure rfl (PO.assign (v := .int .i64 ((a / 8 : Nat) : Int)) rfl) ?_
    refine JL.nil ?_
    refine JQ.seq ?_
    refine JC.seq ?_
    refine JC.seq ?_
    refine JC.region ?_
    refine JL.pure rfl (PO.move (v := .int .i64 ((a : Nat) : Int)) (congrArg (Value.int .i64) hat)) ?_
    refine JL.pure rfl (PO.remN (c := ((a % 8 : Nat) : Int)) rfl rfl (by omega) (by omega) (by omega)) ?_
    refine JL.pure rfl (PO.gtr rfl rfl) ?_
    refine JL.nil ?_
    refine JQ.seq ?_
    by_cases h_10 : 0 < ((a % 8 : Nat) : Int)
    · skip
      refine JC.condT (congrArg Value.bool (decide_eq_true h_10)) ?_
      refine JC.seq ?_
      refine JC.region ?_
      refine JL.pure rfl (PO.assign (v := str []) rfl) ?_
      refine JL.nil ?_
      refine JQ.seq ?_
      refine JC.seq ?_
      refine JC.region ?_
      refine JL.ld rfl (LO.loadK 4 (vs := [.slice x_5.a0 m_6.s.length x_5.c0, .slice x_5.a1 m_6.r.length x_5.c1, .slice x_5.a2 m_6.w.length x_5.c2]) rfl rfl Tryz.isAgg32 Tryz.sizeOf32 rfl rfl) ?_
      refine JL.pure rfl (PO.move (v := .int .i64 id) rfl) ?_
      refine JL.pure rfl (PO.move (v := .int .i64 ((a / 8 : Nat) : Int)) rfl) ?_
      refine JL.op rfl (JO.call [0, 0, 0] Tryz.call208 rfl (M_block x_5 m_6 k_4 (by omega) (by omega) id ((a / 8 : Nat) : Int) (by omega) (by omega)) rfl (fun _ _ => trivial)) ?_
      rintro _ _ ⟨_, ⟨x_13, m_14, u_15, e_11, k_12, f_16, rfl, rfl⟩, rfl⟩
      refine JL.pure rfl (PO.move (v := .tuple #[mv x_13 m_14, str u_15]) rfl) ?_
      refine JL.pure rfl (PO.extract (v := mv x_13 m_14) rfl rfl) ?_
      refine JL.pure rfl (PO.extract (v := str u_15) rfl rfl) ?_
      refine JL.op rfl (JO.store 4 (vs := [.slice x_13.a0 m_14.s.length x_13.c0, .slice x_13.a1 m_14.r.length x_13.c1, .slice x_13.a2 m_14.w.length x_13.c2]) (cs' := [.slice x_13.a0 m_14.s.length x_13.c0, .slice x_13.a1 m_14.r.length x_13.c1, .slice x_13.a2 m_14.w.length x_13.c2]) rfl rfl rfl rfl Tryz.sizeOf32 rfl rfl (Nat.le_of_ble_eq_true rfl) rfl) ?_
      rintro _ _ rfl
      refine JL.pure rfl (PO.assign (v := str u_15) rfl) ?_
      refine JL.nil ?_
      refine JQ.seq ?_
      refine JC.seq ?_
      refine JC.regionA [mb b_1 x_13 m_14] 10 mixed (by simp) ?_
      refine JA.take 0 rfl (by kernel_rfl) (NP.th (NP.th NP.body)) (by kernel_rfl) (by kernel_rfl) (by kernel_rfl) rfl (LO.loadK 0 (vs := [.slice x_13.a0 m_14.s.length x_13.c0, .slice x_13.a1 m_14.r.length x_13.c1, .slice x_13.a2 m_14.w.length x_13.c2]) rfl rfl Tryz.isAgg32 Tryz.sizeOf32 rfl rfl) ?_
      refine JA.takeP 1 rfl (by kernel_rfl) (NP.th (NP.th NP.body)) (by kernel_rfl) (by kernel_rfl) rfl (PO.move (v := .int .i64 id) rfl) ?_
      refine JA.takeP 2 rfl (by kernel_rfl) (NP.th (NP.th NP.body)) (by kernel_rfl) (by kernel_rfl) rfl (PO.move (v := .int .i64 ((a / 8 : Nat) : Int)) rfl) ?_
      refine JA.takeP 3 rfl (by kernel_rfl) (NP.th (NP.th NP.body)) (by kernel_rfl) (by kernel_rfl) rfl (PO.move (v := str u_15) rfl) ?_
      refine JA.takeP 4 rfl (by kernel_rfl) (NP.th (NP.th NP.body)) (by kernel_rfl) (by kernel_rfl) rfl (PO.move (v := .int .i64 ((a : Nat) : Int)) (congrArg (Value.int .i64) hat)) ?_
      refine JA.takeP 5 rfl (by kernel_rfl) (NP.th (NP.th NP.body)) (by kernel_rfl) (by kernel_rfl) rfl (PO.remN (c := ((a % 8 : Nat) : Int)) rfl rfl (by omega) (by omega) (by omega)) ?_
      refine JA.takeP 6 rfl (by kernel_rfl) (NP.th (NP.th NP.body)) (by kernel_rfl) (by kernel_rfl) rfl (PO.move (v := str u_15) rfl) ?_
      refine JA.takeP 7 rfl (by kernel_rfl) (NP.th (NP.th NP.body)) (by kernel_rfl) (by kernel_rfl) rfl (PO.lenS Tryz.underlying9 rfl) ?_
      refine JA.one (i := 8) (by kernel_rfl) ?_
      refine JX.op rfl rfl (JO.call [] Tryz.call216 rfl (N_brought (a % 8) u_15.length) rfl (fun _ _ => trivial)) ?_
      rintro _ _ ⟨_, ⟨rfl, rfl⟩, rfl⟩
      refine ⟨(by simp), ?_⟩
      refine JA.takeP 9 rfl (by kernel_rfl) (NP.th (NP.th NP.body)) (by kernel_rfl) (by kernel_rfl) rfl (PO.sliceSh (j := (min (a % 8) u_15.length)) Tryz.underlying9 rfl rfl (by omega)) ?_
      refine JA.one (i := 10) (by kernel_rfl) ?_
      refine JX.late rfl rfl (by decide) (by kernel_rfl) (JO.call [0, 0, 0] Tryz.call247 rfl (M_layBlock x_13 m_14 k_12 (by omega) (by omega) id ((a / 8 : Nat) : Int) (u_15.take (min (a % 8) u_15.length)) (by omega) (by omega) (by first | omega | (simp only [List.length_append, List.length_cons, List.length_nil, List.length_take, List.length_drop]; omega))) rfl (fun _ _ => trivial)) ?_
      rintro _ _ ⟨_, ⟨x_23, m_24, e_21, k_22, rfl, rfl⟩, rfl⟩
      refine JA.one (i := 11) (by kernel_rfl) ?_
      refine JX.last rfl rfl (by decide) (by kernel_rfl) (JO.store 4 (vs := [.slice x_23.a0 m_24.s.length x_23.c0, .slice x_23.a1 m_24.r.length x_23.c1, .slice x_23.a2 m_24.w.length x_23.c2]) (cs' := [.slice x_23.a0 m_24.s.length x_23.c0, .slice x_23.a1 m_24.r.length x_23.c1, .slice x_23.a2 m_24.w.length x_23.c2]) rfl rfl rfl rfl Tryz.sizeOf32 rfl rfl (Nat.le_of_ble_eq_true rfl) rfl) ?_
      rintro _ _ rfl
      refine JQ.seq ?_
      refine JC.region ?_
      refine JL.pure rfl (PO.move (v := .int .i64 ((a / 8 : Nat) : Int)) rfl) ?_
      refine JL.pure rfl (PO.add (c := (((a / 8) + 1 : Nat) : Int)) rfl rfl (wr (by omega))) ?_
      refine JL.pure rfl (PO.assign (v := .int .i64 (((a / 8) + 1 : Nat) : Int)) rfl) ?_
      refine JL.nil ?_
      refine JQ.seq ?_
      refine JC.seq ?_
      refine JC.block ?_
      refine JC.loop (fun k_ e_ L_ => ∃ p_ : Nat, ∃ x1 : MA, ∃ mm : MS, (mm.ok (S + 1) (T + 4 + p_)) ∧ (p_ ≤ 126) ∧ (MS.cutL id Z (130 - p_) p_ mm = MS.cutL id Z (130 - ((a / 8) + 1)) ((a / 8) + 1) m_24) ∧ e_ 1 = .int .i64 id ∧ e_ 2 = .int .i64 ((a : Nat) : Int) ∧ e_ 3 = .pointer (some ⟨b_1, 0, none⟩) ∧ e_ 6 = .pointer (some ⟨b_2, 0, none⟩) ∧ e_ 7 = .int .i64 0 ∧ e_ 8 = .int .i64 ((Z : Nat) : Int) ∧ e_ 9 = .int .i64 ((p_ : Nat) : Int) ∧ L_ = [rC x1.a0 x1.c0 mm.s, rS x1.a1 x1.c1 mm.r, rS x1.a2 x1.c2 mm.w, bk b_2 32 [.slice none 0 0, .slice none 0 0, .slice none 0 0], mb b_1 x1 mm] ∧ k_ = 130 - p_) _ ⟨((a / 8) + 1), x_23, m_24, (k_22.mono (by omega) (by omega)), (by omega), rfl, rfl, (congrArg (Value.int .i64) hat), rfl, rfl, rfl, (congrArg (Value.int .i64) hZ), rfl, rfl, rfl⟩ ?_
      rintro _ e_25 _ ⟨p_, x1, mm, hkmm, hp0, hR, he_26, he_27, he_28, he_29, he_30, he_31, he_32, rfl, rfl⟩
      refine JC.seq ?_
      refine JC.seq ?_
      refine JC.region ?_
      refine JL.pure rfl (PO.move (v := .int .i64 ((p_ : Nat) : Int)) he_32) ?_
      refine JL.pure rfl (PO.mul (c := ((p_ * 8 : Nat) : Int)) rfl rfl (wr (by omega))) ?_
      refine JL.pure rfl (PO.move (v := .int .i64 ((Z : Nat) : Int)) he_31) ?_
      refine JL.pure rfl (PO.lss rfl rfl) ?_
      refine JL.nil ?_
      refine JQ.seq ?_
      by_cases h_33 : ((p_ * 8 : Nat) : Int) < ((Z : Nat) : Int)
      · skip
        refine JC.condT (congrArg Value.bool (decide_eq_true h_33)) ?_
        refine JC.skip ?_
        refine JQ.seq ?_
        refine JC.block ?_
        refine JC.seq ?_
        refine JC.regionA [mb b_1 x1 mm] 4 mixed (by simp) ?_
        refine JA.take 0 rfl (by kernel_rfl) (NP.th (NP.bl (NP.th (NP.bl (NP.th NP.body))))) (by kernel_rfl) (by kernel_rfl) (by kernel_rfl) rfl (LO.loadK 0 (vs := [.slice x1.a0 mm.s.length x1.c0, .slice x1.a1 mm.r.length x1.c1, .slice x1.a2 mm.w.length x1.c2]) rfl he_28 Tryz.isAgg32 Tryz.sizeOf32 rfl rfl) ?_
        refine JA.takeP 1 rfl (by kernel_rfl) (NP.th (NP.bl (NP.th (NP.bl (NP.th NP.body))))) (by kernel_rfl) (by kernel_rfl) rfl (PO.move (v := .int .i64 id) he_26) ?_
        refine JA.takeP 2 rfl (by kernel_rfl) (NP.th (NP.bl (NP.th (NP.bl (NP.th NP.body))))) (by kernel_rfl) (by kernel_rfl) rfl (PO.move (v := .int .i64 ((p_ : Nat) : Int)) he_32) ?_
        refine JA.one (i := 3) (by kernel_rfl) ?_
        refine JX.op rfl rfl (JO.call [] Tryz.call248 rfl (N_l07Block id ((p_ : Nat) : Int) (by omega) (by omega)) rfl (fun _ _ => trivial)) ?_
        rintro _ _ ⟨_, ⟨u_40, e_38, f_41, rfl, rfl⟩, rfl⟩
        refine ⟨(by simp), ?_⟩
        refine JA.one (i := 4) (by kernel_rfl) ?_
        refine JX.late rfl rfl (by decide) (by kernel_rfl) (JO.call [0, 0, 0] Tryz.call232 rfl (N_sLayNil x1 mm hkmm (by omega) (by omega) u_40 (by omega)) rfl (fun _ _ => trivial)) ?_
        rintro _ _ ⟨_, ⟨x_48, m_49, e_46, k_47, rfl, rfl⟩, rfl⟩
        refine JA.one (i := 5) (by kernel_rfl) ?_
        refine JX.last rfl rfl (by decide) (by kernel_rfl) (JO.store 4 (vs := [.slice x_48.a0 m_49.s.length x_48.c0, .slice x_48.a1 m_49.r.length x_48.c1, .slice x_48.a2 m_49.w.length x_48.c2]) (cs' := [.slice x_48.a0 m_49.s.length x_48.c0, .slice x_48.a1 m_49.r.length x_48.c1, .slice x_48.a2 m_49.w.length x_48.c2]) rfl he_28 rfl rfl Tryz.sizeOf32 rfl rfl (Nat.le_of_ble_eq_true rfl) rfl) ?_
        rintro _ _ rfl
        refine JQ.seq ?_
        refine JC.region ?_
        refine JL.pure rfl (PO.move (v := .int .i64 ((p_ : Nat) : Int)) he_32) ?_
        refine JL.pure rfl (PO.add (c := ((p_ + 1 : Nat) : Int)) rfl rfl (wr (by omega))) ?_
        refine JL.pure rfl (PO.assign (v := .int .i64 ((p_ + 1 : Nat) : Int)) rfl) ?_
        refine JL.nil ?_
        refine JQ.blockN ?_
        refine JQ.pick [0, 0, 0, 0, 0] (A := [rC x_48.a0 x_48.c0 m_49.s, rS x_48.a1 x_48.c1 m_49.r, rS x_48.a2 x_48.c2 m_49.w, bk b_2 32 [.slice none 0 0, .slice none 0 0, .slice none 0 0], mb b_1 x_48 m_49]) rfl ?_
        refine JQ.again (130 - (p_ + 1)) (by omega) ⟨(p_ + 1), x_48, m_49, (k_47.mono (by omega) (by omega)), (by omega), (by rw [show 130 - p_ = (130 - (p_ + 1)) + 1 by omega, MS.cutL, if_pos (by omega)] at hR; simp only [MS.blockKey, e_3, e_11, e_21, e_38, e_46] at hR; exact hR), he_26, he_27, he_28, he_29, he_30, he_31, rfl, rfl, rfl⟩
      · skip
        rw [MS.cutL_stop (by omega)] at hR
        have hRE := hR.symm
        refine JC.condF (congrArg Value.bool (decide_eq_false h_33)) ?_
        refine JC.exit ?_
        refine JQ.thenExit ?_
        refine JQ.thenExit ?_
        refine JQ.blockE ?_
        refine JQ.seq ?_
        refine JC.seq ?_
        refine JC.regionA [mb b_1 x1 mm] 4 mixed (by simp) ?_
        refine JA.take 0 rfl (by kernel_rfl) (NP.th NP.body) (by kernel_rfl) (by kernel_rfl) (by kernel_rfl) rfl (LO.loadK 0 (vs := [.slice x1.a0 mm.s.length x1.c0, .slice x1.a1 mm.r.length x1.c1, .slice x1.a2 mm.w.length x1.c2]) rfl he_28 Tryz.isAgg32 Tryz.sizeOf32 rfl rfl) ?_
        refine JA.takeP 1 rfl (by kernel_rfl) (NP.th NP.body) (by kernel_rfl) (by kernel_rfl) rfl (PO.move (v := .int .i64 id) he_26) ?_
        refine JA.takeP 3 rfl (by kernel_rfl) (NP.th NP.body) (by kernel_rfl) (by kernel_rfl) rfl (PO.move (v := .int .i64 ((a : Nat) : Int)) he_27) ?_
        refine JA.one (i := 2) (by kernel_rfl) ?_
        refine JX.op rfl rfl (JO.call [] Tryz.call219 rfl (N_sKeyNum [105, 47] id [47, 115] (show List.length ([105, 47] : Str) ≤ 2 by decide) (by omega) (show List.length ([47, 115] : Str) ≤ 2 by decide) (by omega)) rfl (fun _ _ => trivial)) ?_
        rintro _ _ ⟨_, ⟨u_60, e_58, f_61, rfl, rfl⟩, rfl⟩
        refine ⟨(by simp), ?_⟩
        refine JA.one (i := 4) (by kernel_rfl) ?_
        refine JX.late rfl rfl (by decide) (by kernel_rfl) (JO.call [0, 0, 0] Tryz.call233 rfl (N_sSetNum x1 mm hkmm (by omega) (by omega) u_60 ((a : Nat) : Int) (by omega) (by omega)) rfl (fun _ _ => trivial)) ?_
        rintro _ _ ⟨_, ⟨x_68, m_69, e_66, k_67, rfl, rfl⟩, rfl⟩
        refine JA.one (i := 5) (by kernel_rfl) ?_
        refine JX.late rfl rfl (by decide) (by kernel_rfl) (JO.store 3 (vs := [.slice x_68.a0 m_69.s.length x_68.c0, .slice x_68.a1 m_69.r.length x_68.c1, .slice x_68.a2 m_69.w.length x_68.c2]) (cs' := [.slice x_68.a0 m_69.s.length x_68.c0, .slice x_68.a1 m_69.r.length x_68.c1, .slice x_68.a2 m_69.w.length x_68.c2]) rfl he_29 rfl rfl Tryz.sizeOf32 rfl rfl (Nat.le_of_ble_eq_true rfl) rfl) ?_
        rintro _ _ rfl
        refine JA.takeP 6 rfl (by kernel_rfl) (NP.th NP.body) (by kernel_rfl) (by kernel_rfl) rfl (PO.assign (v := .int .i64 0) rfl) ?_
        refine JA.done (by kernel_rfl) ?_
        refine JQ.seq ?_
        refine JC.ret ?_
        refine Done.two (.inl rfl) rfl (RV.cell1 (LO.loadK 3 (vs := [.slice x_68.a0 m_69.s.length x_68.c0, .slice x_68.a1 m_69.r.length x_68.c1, .slice x_68.a2 m_69.w.length x_68.c2]) rfl he_29 Tryz.isAgg32 Tryz.sizeOf32 rfl rfl) ⟨_, he_29⟩) (RV.tmp (v := .int .i64 0) rfl) (List.sublist_append_left [rC x_68.a0 x_68.c0 m_69.s, rS x_68.a1 x_68.c1 m_69.r, rS x_68.a2 x_68.c2 m_69.w] [mb b_2 x_68 m_69, mb b_1 x1 mm]) ?_
        exact ⟨x_68, m_69, 0, (by simp only [MS.cutFile, Int.toNat_natCast, true_or, or_true, false_or, or_false, MS.blockKey, e_3, h_9, hat, hZ, h_10, e_11, e_21, h_33, hRE, e_58, e_66, if_true, if_false, Bool.false_eq_true, Bool.not_true, Bool.not_false]; (repeat (first | rw [if_pos (by omega)] | rw [if_neg (by omega)])); all_goals (first | rfl | simp only [if_true, if_false, Bool.false_eq_true, Bool.not_true, Bool.not_false, e_3, h_9, hat, hZ, h_10, e_11, e_21, h_33, hRE, e_58, e_66])), (k_67.mono (by omega) (by omega)), (by first | omega | (simp only [List.length_append, List.length_cons, List.length_nil, List.length_take, List.length_drop]; omega)), rfl, rfl⟩
    · skip
      refine JC.condF (congrArg Value.bool (decide_eq_false h_10)) ?_
      refine JC.skip ?_
      refine JQ.seq ?_
      refine JC.seq ?_
      refine JC.block ?_
      refine JC.loop (fun k_ e_ L_ => ∃ p_ : Nat, ∃ x1 : MA, ∃ mm : MS, (mm.ok (S + 1) (T + 4 + p_)) ∧ (p_ ≤ 126) ∧ (MS.cutL id Z (130 - p_) p_ mm = MS.cutL id Z (130 - (a / 8)) (a / 8) m_6) ∧ e_ 1 = .int .i64 id ∧ e_ 2 = .int .i64 ((a : Nat) : Int) ∧ e_ 3 = .pointer (some ⟨b_1, 0, none⟩) ∧ e_ 6 = .pointer (some ⟨b_2, 0, none⟩) ∧ e_ 7 = .int .i64 0 ∧ e_ 8 = .int .i64 ((Z : Nat) : Int) ∧ e_ 9 = .int .i64 ((p_ : Nat) : Int) ∧ L_ = [rC x1.a0 x1.c0 mm.s, rS x1.a1 x1.c1 mm.r, rS x1.a2 x1.c2 mm.w, bk b_2 32 [.slice none 0 0, .slice none 0 0, .slice none 0 0], mb b_1 x1 mm] ∧ k_ = 130 - p_) _ ⟨(a / 8), x_5, m_6, (k_4.mono (by omega) (by omega)), (by omega), rfl, rfl, (congrArg (Value.int .i64) hat), rfl, rfl, rfl, (congrArg (Value.int .i64) hZ), rfl, rfl, rfl⟩ ?_
      rintro _ e_70 _ ⟨p_, x1, mm, hkmm, hp0, hR, he_71, he_72, he_73, he_74, he_75, he_76, he_77, rfl, rfl⟩
      refine JC.seq ?_
      refine JC.seq ?_
      refine JC.region ?_
      refine JL.pure rfl (PO.move (v := .int .i64 ((p_ : Nat) : Int)) he_77) ?_
      refine JL.pure rfl (PO.mul (c := ((p_ * 8 : Nat) : Int)) rfl rfl (wr (by omega))) ?_
      refine JL.pure rfl (PO.move (v := .int .i64 ((Z : Nat) : Int)) he_76) ?_
      refine JL.pure rfl (PO.lss rfl rfl) ?_
      refine JL.nil ?_
      refine JQ.seq ?_
      by_cases h_78 : ((p_ * 8 : Nat) : Int) < ((Z : Nat) : Int)
      · skip
        refine JC.condT (congrArg Value.bool (decide_eq_true h_78)) ?_
        refine JC.skip ?_
        refine JQ.seq ?_
        refine JC.block ?_
        refine JC.seq ?_
        refine JC.regionA [mb b_1 x1 mm] 4 mixed (by simp) ?_
        refine JA.take 0 rfl (by kernel_rfl) (NP.th (NP.bl (NP.th (NP.bl (NP.th NP.body))))) (by kernel_rfl) (by kernel_rfl) (by kernel_rfl) rfl (LO.loadK 0 (vs := [.slice x1.a0 mm.s.length x1.c0, .slice x1.a1 mm.r.length x1.c1, .slice x1.a2 mm.w.length x1.c2]) rfl he_73 Tryz.isAgg32 Tryz.sizeOf32 rfl rfl) ?_
        refine JA.takeP 1 rfl (by kernel_rfl) (NP.th (NP.bl (NP.th (NP.bl (NP.th NP.body))))) (by kernel_rfl) (by kernel_rfl) rfl (PO.move (v := .int .i64 id) he_71) ?_
        refine JA.takeP 2 rfl (by kernel_rfl) (NP.th (NP.bl (NP.th (NP.bl (NP.th NP.body))))) (by kernel_rfl) (by kernel_rfl) rfl (PO.move (v := .int .i64 ((p_ : Nat) : Int)) he_77) ?_
        refine JA.one (i := 3) (by kernel_rfl) ?_
        refine JX.op rfl rfl (JO.call [] Tryz.call248 rfl (N_l07Block id ((p_ : Nat) : Int) (by omega) (by omega)) rfl (fun _ _ => trivial)) ?_
        rintro _ _ ⟨_, ⟨u_85, e_83, f_86, rfl, rfl⟩, rfl⟩
        refine ⟨(by simp), ?_⟩
        refine JA.one (i := 4) (by kernel_rfl) ?_
        refine JX.late rfl rfl (by decide) (by kernel_rfl) (JO.call [0, 0, 0] Tryz.call232 rfl (N_sLayNil x1 mm hkmm (by omega) (by omega) u_85 (by omega)) rfl (fun _ _ => trivial)) ?_
        rintro _ _ ⟨_, ⟨x_93, m_94, e_91, k_92, rfl, rfl⟩, rfl⟩
        refine JA.one (i := 5) (by kernel_rfl) ?_
        refine JX.last rfl rfl (by decide) (by kernel_rfl) (JO.store 4 (vs := [.slice x_93.a0 m_94.s.length x_93.c0, .slice x_93.a1 m_94.r.length x_93.c1, .slice x_93.a2 m_94.w.length x_93.c2]) (cs' := [.slice x_93.a0 m_94.s.length x_93.c0, .slice x_93.a1 m_94.r.length x_93.c1, .slice x_93.a2 m_94.w.length x_93.c2]) rfl he_73 rfl rfl Tryz.sizeOf32 rfl rfl (Nat.le_of_ble_eq_true rfl) rfl) ?_
        rintro _ _ rfl
        refine JQ.seq ?_
        refine JC.region ?_
        refine JL.pure rfl (PO.move (v := .int .i64 ((p_ : Nat) : Int)) he_77) ?_
        refine JL.pure rfl (PO.add (c := ((p_ + 1 : Nat) : Int)) rfl rfl (wr (by omega))) ?_
        refine JL.pure rfl (PO.assign (v := .int .i64 ((p_ + 1 : Nat) : Int)) rfl) ?_
        refine JL.nil ?_
        refine JQ.blockN ?_
        refine JQ.pick [0, 0, 0, 0, 0] (A := [rC x_93.a0 x_93.c0 m_94.s, rS x_93.a1 x_93.c1 m_94.r, rS x_93.a2 x_93.c2 m_94.w, bk b_2 32 [.slice none 0 0, .slice none 0 0, .slice none 0 0], mb b_1 x_93 m_94]) rfl ?_
        refine JQ.again (130 - (p_ + 1)) (by omega) ⟨(p_ + 1), x_93, m_94, (k_92.mono (by omega) (by omega)), (by omega), (by rw [show 130 - p_ = (130 - (p_ + 1)) + 1 by omega, MS.cutL, if_pos (by omega)] at hR; simp only [MS.blockKey, e_3, e_83, e_91] at hR; exact hR), he_71, he_72, he_73, he_74, he_75, he_76, rfl, rfl, rfl⟩
      · skip
        rw [MS.cutL_stop (by omega)] at hR
        have hRE := hR.symm
        refine JC.condF (congrArg Value.bool (decide_eq_false h_78)) ?_
        refine JC.exit ?_
        refine JQ.thenExit ?_
        refine JQ.thenExit ?_
        refine JQ.blockE ?_
        refine JQ.seq ?_
        refine JC.seq ?_
        refine JC.regionA [mb b_1 x1 mm] 4 mixed (by simp) ?_
        refine JA.take 0 rfl (by kernel_rfl) (NP.th NP.body) (by kernel_rfl) (by kernel_rfl) (by kernel_rfl) rfl (LO.loadK 0 (vs := [.slice x1.a0 mm.s.length x1.c0, .slice x1.a1 mm.r.length x1.c1, .slice x1.a2 mm.w.length x1.c2]) rfl he_73 Tryz.isAgg32 Tryz.sizeOf32 rfl rfl) ?_
        refine JA.takeP 1 rfl (by kernel_rfl) (NP.th NP.body) (by kernel_rfl) (by kernel_rfl) rfl (PO.move (v := .int .i64 id) he_71) ?_
        refine JA.takeP 3 rfl (by kernel_rfl) (NP.th NP.body) (by kernel_rfl) (by kernel_rfl) rfl (PO.move (v := .int .i64 ((a : Nat) : Int)) he_72) ?_
        refine JA.one (i := 2) (by kernel_rfl) ?_
        refine JX.op rfl rfl (JO.call [] Tryz.call219 rfl (N_sKeyNum [105, 47] id [47, 115] (show List.length ([105, 47] : Str) ≤ 2 by decide) (by omega) (show List.length ([47, 115] : Str) ≤ 2 by decide) (by omega)) rfl (fun _ _ => trivial)) ?_
        rintro _ _ ⟨_, ⟨u_105, e_103, f_106, rfl, rfl⟩, rfl⟩
        refine ⟨(by simp), ?_⟩
        refine JA.one (i := 4) (by kernel_rfl) ?_
        refine JX.late rfl rfl (by decide) (by kernel_rfl) (JO.call [0, 0, 0] Tryz.call233 rfl (N_sSetNum x1 mm hkmm (by omega) (by omega) u_105 ((a : Nat) : Int) (by omega) (by omega)) rfl (fun _ _ => trivial)) ?_
        rintro _ _ ⟨_, ⟨x_113, m_114, e_111, k_112, rfl, rfl⟩, rfl⟩
        refine JA.one (i := 5) (by kernel_rfl) ?_
        refine JX.late rfl rfl (by decide) (by kernel_rfl) (JO.store 3 (vs := [.slice x_113.a0 m_114.s.length x_113.c0, .slice x_113.a1 m_114.r.length x_113.c1, .slice x_113.a2 m_114.w.length x_113.c2]) (cs' := [.slice x_113.a0 m_114.s.length x_113.c0, .slice x_113.a1 m_114.r.length x_113.c1, .slice x_113.a2 m_114.w.length x_113.c2]) rfl he_74 rfl rfl Tryz.sizeOf32 rfl rfl (Nat.le_of_ble_eq_true rfl) rfl) ?_
        rintro _ _ rfl
        refine JA.takeP 6 rfl (by kernel_rfl) (NP.th NP.body) (by kernel_rfl) (by kernel_rfl) rfl (PO.assign (v := .int .i64 0) rfl) ?_
        refine JA.done (by kernel_rfl) ?_
        refine JQ.seq ?_
        refine JC.ret ?_
        refine Done.two (.inl rfl) rfl (RV.cell1 (LO.loadK 3 (vs := [.slice x_113.a0 m_114.s.length x_113.c0, .slice x_113.a1 m_114.r.length x_113.c1, .slice x_113.a2 m_114.w.length x_113.c2]) rfl he_74 Tryz.isAgg32 Tryz.sizeOf32 rfl rfl) ⟨_, he_74⟩) (RV.tmp (v := .int .i64 0) rfl) (List.sublist_append_left [rC x_113.a0 x_113.c0 m_114.s, rS x_113.a1 x_113.c1 m_114.r, rS x_113.a2 x_113.c2 m_114.w] [mb b_2 x_113 m_114, mb b_1 x1 mm]) ?_
        exact ⟨x_113, m_114, 0, (by simp only [MS.cutFile, Int.toNat_natCast, true_or, or_true, false_or, or_false, MS.blockKey, e_3, h_9, hat, hZ, h_10, h_78, hRE, e_103, e_111, if_true, if_false, Bool.false_eq_true, Bool.not_true, Bool.not_false]; (repeat (first | rw [if_pos (by omega)] | rw [if_neg (by omega)])); all_goals (first | rfl | simp only [if_true, if_false, Bool.false_eq_true, Bool.not_true, Bool.not_false, e_3, h_9, hat, hZ, h_10, h_78, hRE, e_103, e_111])), (k_112.mono (by omega) (by omega)), (by first | omega | (simp only [List.length_append, List.length_cons, List.length_nil, List.length_take, List.length_drop]; omega)), rfl, rfl⟩
  · skip
    have h_9d := h_9
    simp only [Bool.and_eq_true, Bool.and_eq_false_iff, decide_eq_true_eq, decide_eq_false_iff_not] at h_9d
    refine JC.condT (congrArg Value.bool (congrArg Bool.not h_9)) ?_
    refine JC.seq ?_
    refine JC.region ?_
    refine JL.ld rfl (LO.loadK 4 (vs := [.slice x_5.a0 m_6.s.length x_5.c0, .slice x_5.a1 m_6.r.length x_5.c1, .slice x_5.a2 m_6.w.length x_5.c2]) rfl rfl Tryz.isAgg32 Tryz.sizeOf32 rfl rfl) ?_
    refine JL.op rfl (JO.store 3 (vs := [.slice x_5.a0 m_6.s.length x_5.c0, .slice x_5.a1 m_6.r.length x_5.c1, .slice x_5.a2 m_6.w.length x_5.c2]) (cs' := [.slice x_5.a0 m_6.s.length x_5.c0, .slice x_5.a1 m_6.r.length x_5.c1, .slice x_5.a2 m_6.w.length x_5.c2]) rfl rfl rfl rfl Tryz.sizeOf32 rfl rfl (Nat.le_of_ble_eq_true rfl) rfl) ?_
    rintro _ _ rfl
    refine JL.pure rfl (PO.assign (v := .int .i64 4) rfl) ?_
    refine JL.nil ?_
    refine JQ.seq ?_
    refine JC.ret ?_
    refine JQ.thenRet ?_
    refine Done.two (.inl rfl) rfl (RV.cell1 (LO.loadK 3 (vs := [.slice x_5.a0 m_6.s.length x_5.c0, .slice x_5.a1 m_6.r.length x_5.c1, .slice x_5.a2 m_6.w.length x_5.c2]) rfl rfl Tryz.isAgg32 Tryz.sizeOf32 rfl rfl) ⟨_, rfl⟩) (RV.tmp (v := .int .i64 4) rfl) (List.sublist_append_left [rC x_5.a0 x_5.c0 m_6.s, rS x_5.a1 x_5.c1 m_6.r, rS x_5.a2 x_5.c2 m_6.w] [mb b_2 x_5 m_6, mb b_1 x_5 m_6]) ?_
    exact ⟨x_5, m_6, 4, (by simp only [MS.cutFile, Int.toNat_natCast, true_or, or_true, false_or, or_false, MS.blockKey, e_3, h_9, if_true, if_false, Bool.false_eq_true, Bool.not_true, Bool.not_false]; (repeat (first | rw [if_pos (by omega)] | rw [if_neg (by omega)])); all_goals (first | rfl | simp only [if_true, if_false, Bool.false_eq_true, Bool.not_true, Bool.not_false, e_3, h_9])), (k_4.mono (by omega) (by omega)), (by first | omega | (simp only [List.length_append, List.length_cons, List.length_nil, List.length_take, List.length_drop]; omega)), rfl, rfl⟩

theorem P_cutFile (x : MA) (m : MS) {S T : Nat} (hk : m.ok S T) (hS : S ≤ 49000000) (hT : T ≤ 49000000) (id : Int) (n : Int) (hid : -9223372036854775808 ≤ id ∧ id ≤ 9223372036854775807) (hn : -9223372036854775808 ≤ n ∧ n ≤ 9223372036854775807) :
    Ct Tryz.prog 23 [mv x m, .int .i64 id, .int .i64 n] ([]) (fun w => seesM w x m ∧ HexOk w) (fun v A' => ∃ x' m' r0, MS.cutFile m id n = (m', r0) ∧ m'.ok (S + 3) (T + 140) ∧ (0 ≤ r0 ∧ r0 ≤ 9) ∧ v = .tuple #[mv x' m', .int .i64 r0] ∧ A' = mr x' m') := by
  refine Ct.introL Tryz.func23 rfl Tryz.ntmps23 (Nat.le_of_ble_eq_true rfl) fun w0 hpre hlow => ?_
  have hs_x_a0 : Sees w0 _ _ _ _ := hpre.1.1
  have hs_x_a1 : Sees w0 _ _ _ _ := hpre.1.2.1
  have hs_x_a2 : Sees w0 _ _ _ _ := hpre.1.2.2
  refine JC.seq ?_
  refine JC.region ?_
  refine JL.op rfl (JO.box (cs := [.slice x.a0 m.s.length x.c0, .slice x.a1 m.r.length x.c1, .slice x.a2 m.w.length x.c2]) rfl rfl) ?_
  rintro _ _ ⟨b_1, rfl, rfl⟩
  refine JL.op rfl (JO.alloc (z := .agg #[.slice none 0 0, .slice none 0 0, .slice none 0 0]) (cs := [.slice none 0 0, .slice none 0 0, .slice none 0 0]) Tryz.zeroValue32 rfl) ?_
  rintro _ _ ⟨b_2, rfl, rfl⟩
  refine JL.pure rfl (PO.assign (v := .int .i64 0) rfl) ?_
  refine JL.nil ?_
  refine JQ.seq ?_
  refine JC.seq ?_
  refine JC.region ?_
  refine JL.ld rfl (LO.loadK 1 (vs := [.slice x.a0 m.s.length x.c0, .slice x.a1 m.r.length x.c1, .slice x.a2 m.w.length x.c2]) rfl rfl Tryz.isAgg32 Tryz.sizeOf32 rfl rfl) ?_
  refine JL.op rfl (JO.call [] Tryz.call127 rfl (N_clone x m hk (by omega) (by omega)) rfl (fun w hw => ⟨hw.seeOut_ hs_x_a0 (fun _ _ => List.not_mem_nil), hw.seeOut_ hs_x_a1 (fun _ _ => List.not_mem_nil), hw.seeOut_ hs_x_a2 (fun _ _ => List.not_mem_nil)⟩)) ?_
  rintro _ _ ⟨_, ⟨x_5, m_6, rfl, k_4, rfl, rfl⟩, rfl⟩
  refine JL.op rfl (JO.store 4 (vs := [.slice x_5.a0 m.s.length x_5.c0, .slice x_5.a1 m.r.length x_5.c1, .slice x_5.a2 m.w.length x_5.c2]) (cs' := [.slice x_5.a0 m.s.length x_5.c0, .slice x_5.a1 m.r.length x_5.c1, .slice x_5.a2 m.w.length x_5.c2]) rfl rfl rfl rfl Tryz.sizeOf32 rfl rfl (Nat.le_of_ble_eq_true rfl) rfl) ?_
  rintro _ _ rfl
  refine JL.nil ?_
  refine JQ.seq ?_
  refine JC.seq ?_
  refine JC.region ?_
  refine JL.pure rfl (PO.move (v := .int .i64 id) rfl) ?_
  refine JL.pure rfl (PO.move (v := .int .i64 n) rfl) ?_
  refine JL.op rfl (JO.call [4, 0, 0, 0] Tryz.call136 rfl (N_cutFile b_1 x_5 m k_4 (by omega) (by omega) id n (by omega) (by omega)) rfl (fun w hw => hw.hex hlow hpre.2)) ?_
  rintro _ _ ⟨_, ⟨x_9, m_10, n_11, e_7, k_8, f_12, rfl, rfl⟩, rfl⟩
  refine JL.pure rfl (PO.assign (v := .int .i64 n_11) rfl) ?_
  refine JL.nil ?_
  refine JQ.seq ?_
  refine JC.seq ?_
  refine JC.region ?_
  refine JL.ld rfl (LO.loadK 0 (vs := [.slice x_9.a0 m_10.s.length x_9.c0, .slice x_9.a1 m_10.r.length x_9.c1, .slice x_9.a2 m_10.w.length x_9.c2]) rfl rfl Tryz.isAgg32 Tryz.sizeOf32 rfl rfl) ?_
  refine JL.pure rfl (PO.move (v := .int .i64 n_11) rfl) ?_
  refine JL.op rfl (JO.store 4 (vs := [.slice x_9.a0 m_10.s.length x_9.c0, .slice x_9.a1 m_10.r.length x_9.c1, .slice x_9.a2 m_10.w.length x_9.c2]) (cs' := [.slice x_9.a0 m_10.s.length x_9.c0, .slice x_9.a1 m_10.r.length x_9.c1, .slice x_9.a2 m_10.w.length x_9.c2]) rfl rfl rfl rfl Tryz.sizeOf32 rfl rfl (Nat.le_of_ble_eq_true rfl) rfl) ?_
  rintro _ _ rfl
  refine JL.pure rfl (PO.assign (v := .int .i64 n_11) rfl) ?_
  refine JL.nil ?_
  refine JQ.seq ?_
  refine JC.ret ?_
  refine JQ.perm (pick_perm [1, 1, 1] (A := [rC x_9.a0 x_9.c0 m_10.s, rS x_9.a1 x_9.c1 m_10.r, rS x_9.a2 x_9.c2 m_10.w]) (F := [mb b_1 x_9 m_10, mb b_2 x_9 m_10]) rfl).symm ?_
  refine Done.two (.inl rfl) rfl (RV.cell1 (LO.loadK 4 (vs := [.slice x_9.a0 m_10.s.length x_9.c0, .slice x_9.a1 m_10.r.length x_9.c1, .slice x_9.a2 m_10.w.length x_9.c2]) rfl rfl Tryz.isAgg32 Tryz.sizeOf32 rfl rfl) ⟨_, rfl⟩) (RV.tmp (v := .int .i64 n_11) rfl) (List.sublist_append_left [rC x_9.a0 x_9.c0 m_10.s, rS x_9.a1 x_9.c1 m_10.r, rS x_9.a2 x_9.c2 m_10.w] [mb b_1 x_9 m_10, mb b_2 x_9 m_10]) ?_
  exact ⟨x_9, m_10, n_11, (by simp only [if_true, e_7, if_true, if_false, Bool.false_eq_true, Bool.not_true, Bool.not_false]; (repeat (first | rw [if_pos (by omega)] | rw [if_neg (by omega)])); all_goals (first | rfl | simp only [if_true, if_false, Bool.false_eq_true, Bool.not_true, Bool.not_false, e_7])), (k_8.mono (by omega) (by omega)), (by first | omega | (simp only [List.length_append, List.length_cons, List.length_nil, List.length_take, List.length_drop]; omega)), rfl, rfl⟩

theorem Q_cutFile (x : MA) (m : MS) {S T : Nat} (hk : m.ok S T) (hS : S ≤ 49000000) (hT : T ≤ 49000000) (id : Int) (n : Int) (hid : -9223372036854775808 ≤ id ∧ id ≤ 9223372036854775807) (hn : -9223372036854775808 ≤ n ∧ n ≤ 9223372036854775807) :
    Ct Tryz.prog 22 [mv x m, .int .i64 id, .int .i64 n] ([]) (fun w => seesM w x m) (fun v A' => ∃ x' m' r0, MS.cutFile m id n = (m', r0) ∧ m'.ok (S + 3) (T + 140) ∧ (0 ≤ r0 ∧ r0 ≤ 9) ∧ v = .tuple #[mv x' m', .int .i64 r0] ∧ A' = mr x' m') := by
  refine Ct.intro Tryz.func22 rfl Tryz.ntmps22 (Nat.le_of_ble_eq_true rfl) fun w0 hpre => ?_
  have hs_x_a0 : Sees w0 _ _ _ _ := hpre.1
  have hs_x_a1 : Sees w0 _ _ _ _ := hpre.2.1
  have hs_x_a2 : Sees w0 _ _ _ _ := hpre.2.2
  refine JC.seq ?_
  refine JC.region ?_
  refine JL.op rfl (JO.box (cs := [.slice x.a0 m.s.length x.c0, .slice x.a1 m.r.length x.c1, .slice x.a2 m.w.length x.c2]) rfl rfl) ?_
  rintro _ _ ⟨b_1, rfl, rfl⟩
  refine JL.op rfl (JO.alloc (z := .agg #[.slice none 0 0, .slice none 0 0, .slice none 0 0]) (cs := [.slice none 0 0, .slice none 0 0, .slice none 0 0]) Tryz.zeroValue32 rfl) ?_
  rintro _ _ ⟨b_2, rfl, rfl⟩
  refine JL.pure rfl (PO.assign (v := .int .i64 0) rfl) ?_
  refine JL.nil ?_
  refine JQ.seq ?_
  refine JC.seq ?_
  refine JC.region ?_
  refine JL.ld rfl (LO.loadK 1 (vs := [.slice x.a0 m.s.length x.c0, .slice x.a1 m.r.length x.c1, .slice x.a2 m.w.length x.c2]) rfl rfl Tryz.isAgg32 Tryz.sizeOf32 rfl rfl) ?_
  refine JL.op rfl (JO.call [] Tryz.call124 rfl (N_copy x m hk (by omega) (by omega)) rfl (fun w hw => ⟨hw.seeOut_ hs_x_a0 (fun _ _ => List.not_mem_nil), hw.seeOut_ hs_x_a1 (fun _ _ => List.not_mem_nil), hw.seeOut_ hs_x_a2 (fun _ _ => List.not_mem_nil)⟩)) ?_
  rintro _ _ ⟨_, ⟨x_5, m_6, rfl, k_4, rfl, rfl⟩, rfl⟩
  refine JL.pure rfl (PO.move (v := .int .i64 id) rfl) ?_
  refine JL.pure rfl (PO.move (v := .int .i64 n) rfl) ?_
  refine JL.op rfl (JO.call [0, 0, 0] Tryz.call135 rfl (M_cutFile x_5 m k_4 (by omega) (by omega) id n (by omega) (by omega)) rfl (fun _ _ => trivial)) ?_
  rintro _ _ ⟨_, ⟨x_9, m_10, n_11, e_7, k_8, f_12, rfl, rfl⟩, rfl⟩
  refine JL.pure rfl (PO.extract (v := mv x_9 m_10) rfl rfl) ?_
  refine JL.pure rfl (PO.extract (v := .int .i64 n_11) rfl rfl) ?_
  refine JL.op rfl (JO.store 3 (vs := [.slice x_9.a0 m_10.s.length x_9.c0, .slice x_9.a1 m_10.r.length x_9.c1, .slice x_9.a2 m_10.w.length x_9.c2]) (cs' := [.slice x_9.a0 m_10.s.length x_9.c0, .slice x_9.a1 m_10.r.length x_9.c1, .slice x_9.a2 m_10.w.length x_9.c2]) rfl rfl rfl rfl Tryz.sizeOf32 rfl rfl (Nat.le_of_ble_eq_true rfl) rfl) ?_
  rintro _ _ rfl
  refine JL.pure rfl (PO.assign (v := .int .i64 n_11) rfl) ?_
  refine JL.nil ?_
  refine JQ.seq ?_
  refine JC.ret ?_
  refine Done.two (.inl rfl) rfl (RV.cell1 (LO.loadK 3 (vs := [.slice x_9.a0 m_10.s.length x_9.c0, .slice x_9.a1 m_10.r.length x_9.c1, .slice x_9.a2 m_10.w.length x_9.c2]) rfl rfl Tryz.isAgg32 Tryz.sizeOf32 rfl rfl) ⟨_, rfl⟩) (RV.tmp (v := .int .i64 n_11) rfl) (List.sublist_append_left [rC x_9.a0 x_9.c0 m_10.s, rS x_9.a1 x_9.c1 m_10.r, rS x_9.a2 x_9.c2 m_10.w] [mb b_2 x_9 m_10, mb b_1 x m]) ?_
  exact ⟨x_9, m_10, n_11, (by simp only [if_true, e_7, if_true, if_false, Bool.false_eq_true, Bool.not_true, Bool.not_false]; (repeat (first | rw [if_pos (by omega)] | rw [if_neg (by omega)])); all_goals (first | rfl | simp only [if_true, if_false, Bool.false_eq_true, Bool.not_true, Bool.not_false, e_7])), (k_8.mono (by omega) (by omega)), (by first | omega | (simp only [List.length_append, List.length_cons, List.length_nil, List.length_take, List.length_drop]; omega)), rfl, rfl⟩

end Go.Proofs.YtenfajgpdhgknaaGreatDoor
