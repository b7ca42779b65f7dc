/-
  A law that draws, walked: it says yes at every row of bytes.
-/
import Derived.Test.YtenfajgpdhgknaaGreatDoorS24DRAWS
import Derived.Test.YtenfajgpdhgknaaGreatDoorDatK
import Derived.Test.YtenfajgpdhgknaaGreatDoorS26DRAWNp1
set_option linter.unusedSimpArgs false
set_option linter.unusedVariables false
set_option linter.unnecessarySimpa false
set_option maxRecDepth 8000
namespace Go.Proofs.YtenfajgpdhgknaaGreatDoor
open Go Go.RowKit
attribute [local irreducible] JL JC JQ JO LO PO JA JX Ct

set_option maxHeartbeats 1600000 in
theorem L_Make (pa : Option Addr) (pc : Nat) (p : Str) :
    Ct Tryz.prog 6 [.slice pa p.length pc] [] (fun w => Sees w (.slice pa p.length pc) 1 p.length (p.map encB)) (fun v A' => v = .bool true ∧ A' = []) := by
  refine Ct.intro Tryz.func6 rfl Tryz.ntmps6 (Nat.le_of_ble_eq_true rfl) fun w0 hpre => ?_
  have hs_pa : Sees w0 _ _ _ _ := hpre
  refine JC.seq ?_
  refine JC.region ?_
  refine JL.pure rfl (PO.assign (v := .bool false) rfl) ?_
  refine JL.nil ?_
  refine JQ.seq ?_
  refine JC.seq ?_
  refine JC.seq ?_
  refine JC.region ?_
  refine JL.pure rfl (PO.move (v := .slice pa p.length pc) rfl) ?_
  refine JL.op rfl (JO.call [] Tryz.call26 rfl (N_big pa pc p) rfl (fun _ _ => trivial)) ?_
  rintro _ _ ⟨_, ⟨rfl, rfl⟩, rfl⟩
  refine JL.nil ?_
  refine JQ.seq ?_
  by_cases h_1 : 1048576 < ((p.length : Nat) : Int)
  · skip
    refine JC.condT (congrArg Value.bool (decide_eq_true h_1)) ?_
    refine JC.seq ?_
    refine JC.region ?_
    refine JL.pure rfl (PO.assign (v := .bool true) rfl) ?_
    refine JL.nil ?_
    refine JQ.seq ?_
    refine JC.ret ?_
    refine JQ.thenRet ?_
    refine Done.one (.inl rfl) rfl (RV.tmp (v := .bool true) rfl) (List.nil_sublist _) ?_
    exact ⟨rfl, rfl⟩
  · skip
    refine JC.condF (congrArg Value.bool (decide_eq_false h_1)) ?_
    refine JC.skip ?_
    refine JQ.seq ?_
    refine JC.seq ?_
    refine JC.region ?_
    refine JL.pure rfl (PO.move (v := .slice pa p.length pc) rfl) ?_
    refine JL.op rfl (JO.call [] Tryz.call27 rfl (D_dMakeName pa pc p (by omega)) rfl (fun w hw => hw.seeOut_ hs_pa (fun _ _ => List.not_mem_nil))) ?_
    rintro _ _ ⟨_, ⟨x_2, m_3, u_5, k_4, f_6, rfl, rfl⟩, rfl⟩
    refine JL.pure rfl (PO.move (v := .tuple #[mv x_2 m_3, str u_5]) rfl) ?_
    refine JL.pure rfl (PO.extract (v := mv x_2 m_3) rfl rfl) ?_
    refine JL.pure rfl (PO.extract (v := str u_5) rfl rfl) ?_
    refine JL.op rfl (JO.alloc (z := .agg #[.slice none 0 0, .slice none 0 0, .slice none 0 0]) (cs := [.slice none 0 0, .slice none 0 0, .slice none 0 0]) Tryz.zeroValue32 rfl) ?_
    rintro _ _ ⟨b_8, rfl, rfl⟩
    refine JL.op rfl (JO.store 0 (vs := [.slice x_2.a0 m_3.s.length x_2.c0, .slice x_2.a1 m_3.r.length x_2.c1, .slice x_2.a2 m_3.w.length x_2.c2]) (cs' := [.slice x_2.a0 m_3.s.length x_2.c0, .slice x_2.a1 m_3.r.length x_2.c1, .slice x_2.a2 m_3.w.length x_2.c2]) rfl rfl rfl rfl Tryz.sizeOf32 rfl rfl (Nat.le_of_ble_eq_true rfl) rfl) ?_
    rintro _ _ rfl
    refine JL.pure rfl (PO.assign (v := str u_5) rfl) ?_
    refine JL.nil ?_
    refine JQ.seq ?_
    refine JC.seq ?_
    refine JC.region ?_
    refine JL.ld rfl (LO.loadK 0 (vs := [.slice x_2.a0 m_3.s.length x_2.c0, .slice x_2.a1 m_3.r.length x_2.c1, .slice x_2.a2 m_3.w.length x_2.c2]) rfl rfl Tryz.isAgg32 Tryz.sizeOf32 rfl rfl) ?_
    refine JL.pure rfl (PO.move (v := str u_5) rfl) ?_
    refine JL.op rfl (JO.call [] Tryz.call28 rfl (P_makeName x_2 m_3 k_4 (by omega) (by omega) u_5 (by omega)) rfl (fun w hw => ⟨hw.see (i := 1) rfl, hw.see (i := 2) rfl, hw.see (i := 3) rfl⟩)) ?_
    rintro _ _ ⟨_, ⟨x_11, m_12, n_13, n_15, e_9, k_10, f_14, f_16, rfl, rfl⟩, rfl⟩
    refine JL.pure rfl (PO.move (v := .tuple #[mv x_11 m_12, .int .i64 n_13, .int .i64 n_15]) rfl) ?_
    refine JL.pure rfl (PO.extract (v := mv x_11 m_12) rfl rfl) ?_
    refine JL.pure rfl (PO.extract (v := .int .i64 n_13) rfl rfl) ?_
    refine JL.pure rfl (PO.extract (v := .int .i64 n_15) rfl rfl) ?_
    refine JL.op rfl (JO.alloc (z := .agg #[.slice none 0 0, .slice none 0 0, .slice none 0 0]) (cs := [.slice none 0 0, .slice none 0 0, .slice none 0 0]) Tryz.zeroValue32 rfl) ?_
    rintro _ _ ⟨b_17, rfl, rfl⟩
    refine JL.op rfl (JO.store 0 (vs := [.slice x_11.a0 m_12.s.length x_11.c0, .slice x_11.a1 m_12.r.length x_11.c1, .slice x_11.a2 m_12.w.length x_11.c2]) (cs' := [.slice x_11.a0 m_12.s.length x_11.c0, .slice x_11.a1 m_12.r.length x_11.c1, .slice x_11.a2 m_12.w.length x_11.c2]) rfl rfl rfl rfl Tryz.sizeOf32 rfl rfl (Nat.le_of_ble_eq_true rfl) rfl) ?_
    rintro _ _ rfl
    refine JL.pure rfl (PO.assign (v := .int .i64 n_13) rfl) ?_
    refine JL.pure rfl (PO.assign (v := .int .i64 n_15) rfl) ?_
    refine JL.nil ?_
    refine JQ.seq ?_
    refine JC.seq ?_
    refine JC.region ?_
    refine JL.ld rfl (LO.loadK 4 (vs := [.slice x_2.a0 m_3.s.length x_2.c0, .slice x_2.a1 m_3.r.length x_2.c1, .slice x_2.a2 m_3.w.length x_2.c2]) rfl rfl Tryz.isAgg32 Tryz.sizeOf32 rfl rfl) ?_
    refine JL.pure rfl (PO.move (v := str u_5) rfl) ?_
    refine JL.op rfl (JO.call [] Tryz.call29 rfl (Q_makeName x_2 m_3 k_4 (by omega) (by omega) u_5 (by omega)) rfl (fun w hw => ⟨hw.see (i := 5) rfl, hw.see (i := 6) rfl, hw.see (i := 7) rfl⟩)) ?_
    rintro _ _ ⟨_, ⟨x_20, m_21, n_22, n_24, e_18, k_19, f_23, f_25, rfl, rfl⟩, rfl⟩
    have hqe_18 := e_9.symm.trans e_18
    simp only [Prod.mk.injEq] at hqe_18
    obtain ⟨rfl, rfl, rfl⟩ := hqe_18
    refine JL.pure rfl (PO.move (v := .tuple #[mv x_20 m_12, .int .i64 n_13, .int .i64 n_15]) rfl) ?_
    refine JL.pure rfl (PO.extract (v := mv x_20 m_12) rfl rfl) ?_
    refine JL.pure rfl (PO.extract (v := .int .i64 n_13) rfl rfl) ?_
    refine JL.pure rfl (PO.extract (v := .int .i64 n_15) rfl rfl) ?_
    refine JL.op rfl (JO.alloc (z := .agg #[.slice none 0 0, .slice none 0 0, .slice none 0 0]) (cs := [.slice none 0 0, .slice none 0 0, .slice none 0 0]) Tryz.zeroValue32 rfl) ?_
    rintro _ _ ⟨b_26, rfl, rfl⟩
    refine JL.op rfl (JO.store 0 (vs := [.slice x_20.a0 m_12.s.length x_20.c0, .slice x_20.a1 m_12.r.length x_20.c1, .slice x_20.a2 m_12.w.length x_20.c2]) (cs' := [.slice x_20.a0 m_12.s.length x_20.c0, .slice x_20.a1 m_12.r.length x_20.c1, .slice x_20.a2 m_12.w.length x_20.c2]) rfl rfl rfl rfl Tryz.sizeOf32 rfl rfl (Nat.le_of_ble_eq_true rfl) rfl) ?_
    rintro _ _ rfl
    refine JL.pure rfl (PO.assign (v := .int .i64 n_13) rfl) ?_
    refine JL.pure rfl (PO.assign (v := .int .i64 n_15) rfl) ?_
    refine JL.nil ?_
    refine JQ.seq ?_
    refine JC.seq ?_
    refine JC.seq ?_
    refine JC.region ?_
    refine JL.pure rfl (PO.move (v := .int .i64 n_13) rfl) ?_
    refine JL.pure rfl (PO.move (v := .int .i64 n_13) rfl) ?_
    refine JL.pure rfl (PO.neqI rfl rfl) ?_
    refine JL.pure rfl (PO.move (v := .bool (!(decide (n_13 = n_13)))) rfl) ?_
    refine JL.guardOn rfl rfl rfl (congrArg Value.bool (congrArg Bool.not (decide_eq_true rfl))) (JO.ofLO (LO.pure (PO.move (v := .int .i64 n_15) rfl))) ?_
    rintro _ _ ⟨rfl, rfl⟩
    refine JL.guardOn rfl rfl rfl (congrArg Value.bool (congrArg Bool.not (decide_eq_true rfl))) (JO.ofLO (LO.pure (PO.move (v := .int .i64 n_15) rfl))) ?_
    rintro _ _ ⟨rfl, rfl⟩
    refine JL.guardOn rfl rfl rfl (congrArg Value.bool (congrArg Bool.not (decide_eq_true rfl))) (JO.ofLO (LO.pure (PO.neqI rfl rfl))) ?_
    rintro _ _ ⟨rfl, rfl⟩
    refine JL.pure rfl (PO.pickF (v := .bool (!(decide (n_15 = n_15)))) (congrArg Value.bool (congrArg Bool.not (decide_eq_true rfl))) rfl) ?_
    refine JL.pure rfl (PO.move (v := .bool (!(decide (n_15 = n_15)))) rfl) ?_
    refine JL.guardOn rfl rfl rfl (congrArg Value.bool (congrArg Bool.not (decide_eq_true rfl))) (JO.ofLO (LO.loadK 4 (vs := [.slice x_11.a0 m_12.s.length x_11.c0, .slice x_11.a1 m_12.r.length x_11.c1, .slice x_11.a2 m_12.w.length x_11.c2]) rfl rfl Tryz.isAgg32 Tryz.sizeOf32 rfl rfl)) ?_
    rintro _ _ ⟨rfl, rfl⟩
    refine JL.guardOn rfl rfl rfl (congrArg Value.bool (congrArg Bool.not (decide_eq_true rfl))) (JO.ofLO (LO.loadK 0 (vs := [.slice x_20.a0 m_12.s.length x_20.c0, .slice x_20.a1 m_12.r.length x_20.c1, .slice x_20.a2 m_12.w.length x_20.c2]) rfl rfl Tryz.isAgg32 Tryz.sizeOf32 rfl rfl)) ?_
    rintro _ _ ⟨rfl, rfl⟩
    refine JL.guardOn rfl rfl rfl (congrArg Value.bool (congrArg Bool.not (decide_eq_true rfl))) (JO.call [] Tryz.call30 rfl (N_sameMach x_11 x_20 m_12 k_10 (by omega) (by omega)) rfl (fun w hw => ⟨⟨hw.see (i := 5) rfl, hw.see (i := 6) rfl, hw.see (i := 7) rfl⟩, ⟨hw.see (i := 1) rfl, hw.see (i := 2) rfl, hw.see (i := 3) rfl⟩⟩)) ?_
    rintro _ _ ⟨_, ⟨rfl, rfl⟩, rfl⟩
    refine JL.guardOn rfl rfl rfl (congrArg Value.bool (congrArg Bool.not (decide_eq_true rfl))) (JO.ofLO (LO.pure (PO.not rfl))) ?_
    rintro _ _ ⟨rfl, rfl⟩
    refine JL.pure rfl (PO.pickF (v := .bool false) (congrArg Value.bool (congrArg Bool.not (decide_eq_true rfl))) rfl) ?_
    refine JL.pure rfl (PO.move (v := .bool false) rfl) ?_
    refine JL.guardOn rfl rfl rfl (congrArg Value.bool rfl) (JO.ofLO (LO.pure (PO.move (v := str u_5) rfl))) ?_
    rintro _ _ ⟨rfl, rfl⟩
    refine JL.guardOn rfl rfl rfl (congrArg Value.bool rfl) (JO.call [] Tryz.call31 rfl (N_nameOk u_5 (by omega)) rfl (fun _ _ => trivial)) ?_
    rintro _ _ ⟨_, ⟨b_29, e_27, rfl, rfl⟩, rfl⟩
    refine JL.guardOn rfl rfl rfl (congrArg Value.bool rfl) (JO.ofLO (LO.pure (PO.move (v := str u_5) rfl))) ?_
    rintro _ _ ⟨rfl, rfl⟩
    refine JL.guardOn rfl rfl rfl (congrArg Value.bool rfl) (JO.call [] Tryz.call32 rfl (N_sNameOk u_5 (by omega)) rfl (fun _ _ => trivial)) ?_
    rintro _ _ ⟨_, ⟨b_32, e_30, rfl, rfl⟩, rfl⟩
    refine JL.guardOn rfl rfl rfl (congrArg Value.bool rfl) (JO.ofLO (LO.pure (PO.neqB Tryz.underlying4 rfl rfl))) ?_
    rintro _ _ ⟨rfl, rfl⟩
    refine JL.pure rfl (PO.pickF (v := .bool (!(decide (b_29 = b_32)))) (congrArg Value.bool rfl) rfl) ?_
    refine JL.nil ?_
    refine JQ.seq ?_
    by_cases h_33 : b_29 = b_32
    · skip
      refine JC.condF (congrArg Value.bool (congrArg Bool.not (decide_eq_true h_33))) ?_
      refine JC.skip ?_
      refine JQ.seq ?_
      refine JC.seq ?_
      refine JC.region ?_
      refine JL.pure rfl (PO.move (v := .slice pa p.length pc) rfl) ?_
      refine JL.op rfl (JO.call [] Tryz.call33 rfl (D_dFileOf pa pc p (by omega)) rfl (fun w hw => hw.seeOut_ hs_pa (fun _ _ => List.not_mem_nil))) ?_
      rintro _ _ ⟨_, ⟨x_34, m_35, u_37, k_36, f_38, rfl, rfl⟩, rfl⟩
      refine JL.pure rfl (PO.move (v := .tuple #[mv x_34 m_35, str u_37]) rfl) ?_
      refine JL.pure rfl (PO.extract (v := mv x_34 m_35) rfl rfl) ?_
      refine JL.pure rfl (PO.extract (v := str u_37) rfl rfl) ?_
      refine JL.op rfl (JO.alloc (z := .agg #[.slice none 0 0, .slice none 0 0, .slice none 0 0]) (cs := [.slice none 0 0, .slice none 0 0, .slice none 0 0]) Tryz.zeroValue32 rfl) ?_
      rintro _ _ ⟨b_40, rfl, rfl⟩
      refine JL.op rfl (JO.store 0 (vs := [.slice x_34.a0 m_35.s.length x_34.c0, .slice x_34.a1 m_35.r.length x_34.c1, .slice x_34.a2 m_35.w.length x_34.c2]) (cs' := [.slice x_34.a0 m_35.s.length x_34.c0, .slice x_34.a1 m_35.r.length x_34.c1, .slice x_34.a2 m_35.w.length x_34.c2]) rfl rfl rfl rfl Tryz.sizeOf32 rfl rfl (Nat.le_of_ble_eq_true rfl) rfl) ?_
      rintro _ _ rfl
      refine JL.pure rfl (PO.assign (v := str u_37) rfl) ?_
      refine JL.nil ?_
      refine JQ.seq ?_
      refine JC.seq ?_
      refine JC.region ?_
      refine JL.ld rfl (LO.loadK 0 (vs := [.slice x_34.a0 m_35.s.length x_34.c0, .slice x_34.a1 m_35.r.length x_34.c1, .slice x_34.a2 m_35.w.length x_34.c2]) rfl rfl Tryz.isAgg32 Tryz.sizeOf32 rfl rfl) ?_
      refine JL.pure rfl (PO.move (v := str u_37) rfl) ?_
      refine JL.op rfl (JO.call [] Tryz.call34 rfl (P_fileOf x_34 m_35 k_36 (by omega) (by omega) u_37 (by omega)) rfl (fun w hw => ⟨hw.see (i := 1) rfl, hw.see (i := 2) rfl, hw.see (i := 3) rfl⟩)) ?_
      rintro _ _ ⟨_, ⟨x_43, m_44, n_45, e_41, k_42, f_46, rfl, rfl⟩, rfl⟩
      refine JL.pure rfl (PO.move (v := .tuple #[mv x_43 m_44, .int .i64 n_45]) rfl) ?_
      refine JL.pure rfl (PO.extract (v := mv x_43 m_44) rfl rfl) ?_
      refine JL.pure rfl (PO.extract (v := .int .i64 n_45) rfl rfl) ?_
      refine JL.op rfl (JO.alloc (z := .agg #[.slice none 0 0, .slice none 0 0, .slice none 0 0]) (cs := [.slice none 0 0, .slice none 0 0, .slice none 0 0]) Tryz.zeroValue32 rfl) ?_
      rintro _ _ ⟨b_47, rfl, rfl⟩
      refine JL.op rfl (JO.store 0 (vs := [.slice x_43.a0 m_44.s.length x_43.c0, .slice x_43.a1 m_44.r.length x_43.c1, .slice x_43.a2 m_44.w.length x_43.c2]) (cs' := [.slice x_43.a0 m_44.s.length x_43.c0, .slice x_43.a1 m_44.r.length x_43.c1, .slice x_43.a2 m_44.w.length x_43.c2]) rfl rfl rfl rfl Tryz.sizeOf32 rfl rfl (Nat.le_of_ble_eq_true rfl) rfl) ?_
      rintro _ _ rfl
      refine JL.pure rfl (PO.assign (v := .int .i64 n_45) rfl) ?_
      refine JL.nil ?_
      refine JQ.seq ?_
      refine JC.seq ?_
      refine JC.region ?_
      refine JL.ld rfl (LO.loadK 4 (vs := [.slice x_34.a0 m_35.s.length x_34.c0, .slice x_34.a1 m_35.r.length x_34.c1, .slice x_34.a2 m_35.w.length x_34.c2]) rfl rfl Tryz.isAgg32 Tryz.sizeOf32 rfl rfl) ?_
      refine JL.pure rfl (PO.move (v := str u_37) rfl) ?_
      refine JL.op rfl (JO.call [] Tryz.call35 rfl (Q_fileOf x_34 m_35 k_36 (by omega) (by omega) u_37 (by omega)) rfl (fun w hw => ⟨hw.see (i := 5) rfl, hw.see (i := 6) rfl, hw.see (i := 7) rfl⟩)) ?_
      rintro _ _ ⟨_, ⟨x_50, m_51, n_52, e_48, k_49, f_53, rfl, rfl⟩, rfl⟩
      have hqe_48 := e_41.symm.trans e_48
      simp only [Prod.mk.injEq] at hqe_48
      obtain ⟨rfl, rfl⟩ := hqe_48
      refine JL.pure rfl (PO.move (v := .tuple #[mv x_50 m_44, .int .i64 n_45]) rfl) ?_
      refine JL.pure rfl (PO.extract (v := mv x_50 m_44) rfl rfl) ?_
      refine JL.pure rfl (PO.extract (v := .int .i64 n_45) rfl rfl) ?_
      refine JL.op rfl (JO.alloc (z := .agg #[.slice none 0 0, .slice none 0 0, .slice none 0 0]) (cs := [.slice none 0 0, .slice none 0 0, .slice none 0 0]) Tryz.zeroValue32 rfl) ?_
      rintro _ _ ⟨b_54, rfl, rfl⟩
      refine JL.op rfl (JO.store 0 (vs := [.slice x_50.a0 m_44.s.length x_50.c0, .slice x_50.a1 m_44.r.length x_50.c1, .slice x_50.a2 m_44.w.length x_50.c2]) (cs' := [.slice x_50.a0 m_44.s.length x_50.c0, .slice x_50.a1 m_44.r.length x_50.c1, .slice x_50.a2 m_44.w.length x_50.c2]) rfl rfl rfl rfl Tryz.sizeOf32 rfl rfl (Nat.le_of_ble_eq_true rfl) rfl) ?_
      rintro _ _ rfl
      refine JL.pure rfl (PO.assign (v := .int .i64 n_45) rfl) ?_
      refine JL.nil ?_
      refine JQ.sub (L' := [mb b_54 x_50 m_44, rC x_50.a0 x_50.c0 m_44.s, rS x_50.a1 x_50.c1 m_44.r, rS x_50.a2 x_50.c2 m_44.w, mb b_47 x_43 m_44, rC x_43.a0 x_43.c0 m_44.s, rS x_43.a1 x_43.c1 m_44.r, rS x_43.a2 x_43.c2 m_44.w, mb b_17 x_11 m_12, rC x_11.a0 x_11.c0 m_12.s, rS x_11.a1 x_11.c1 m_12.r, rS x_11.a2 x_11.c2 m_12.w, mb b_8 x_2 m_3, rC x_2.a0 x_2.c0 m_3.s, rS x_2.a1 x_2.c1 m_3.r, rS x_2.a2 x_2.c2 m_3.w]) (.cons_cons _ (.cons_cons _ (.cons_cons _ (.cons_cons _ (.cons_cons _ (.cons_cons _ (.cons_cons _ (.cons_cons _ (.cons _ (.cons _ (.cons _ (.cons _ (.cons _ (.cons _ (.cons _ (.cons _ (.cons_cons _ (.cons_cons _ (.cons_cons _ (.cons_cons _ (.cons_cons _ (.cons_cons _ (.cons_cons _ (.cons_cons _ (.slnil))))))))))))))))))))))))) ?_
      refine JQ.seq ?_
      refine JC.seq ?_
      refine JC.region ?_
      refine JL.op rfl (JO.call [] Tryz.call36 rfl (D_base) rfl (fun _ _ => trivial)) ?_
      rintro _ _ ⟨_, ⟨x_55, m_56, e_58, k_57, rfl, rfl⟩, rfl⟩
      refine JL.op rfl (JO.call [] Tryz.call28 rfl (P_makeName x_55 m_56 k_57 (by omega) (by omega) [120] (by decide)) rfl (fun w hw => ⟨hw.see (i := 0) rfl, hw.see (i := 1) rfl, hw.see (i := 2) rfl⟩)) ?_
      rintro _ _ ⟨_, ⟨x_61, m_62, n_63, n_65, e_59, k_60, f_64, f_66, rfl, rfl⟩, rfl⟩
      refine JL.pure rfl (PO.move (v := .tuple #[mv x_61 m_62, .int .i64 n_63, .int .i64 n_65]) rfl) ?_
      refine JL.pure rfl (PO.extract (v := mv x_61 m_62) rfl rfl) ?_
      refine JL.pure rfl (PO.extract (v := .int .i64 n_63) rfl rfl) ?_
      refine JL.pure rfl (PO.extract (v := .int .i64 n_65) rfl rfl) ?_
      refine JL.op rfl (JO.alloc (z := .agg #[.slice none 0 0, .slice none 0 0, .slice none 0 0]) (cs := [.slice none 0 0, .slice none 0 0, .slice none 0 0]) Tryz.zeroValue32 rfl) ?_
      rintro _ _ ⟨b_67, rfl, rfl⟩
      refine JL.op rfl (JO.store 0 (vs := [.slice x_61.a0 m_62.s.length x_61.c0, .slice x_61.a1 m_62.r.length x_61.c1, .slice x_61.a2 m_62.w.length x_61.c2]) (cs' := [.slice x_61.a0 m_62.s.length x_61.c0, .slice x_61.a1 m_62.r.length x_61.c1, .slice x_61.a2 m_62.w.length x_61.c2]) rfl rfl rfl rfl Tryz.sizeOf32 rfl rfl (Nat.le_of_ble_eq_true rfl) rfl) ?_
      rintro _ _ rfl
      refine JL.pure rfl (PO.assign (v := .int .i64 n_63) rfl) ?_
      refine JL.pure rfl (PO.assign (v := .int .i64 n_65) rfl) ?_
      refine JL.nil ?_
      refine JQ.seq ?_
      refine JC.seq ?_
      refine JC.region ?_
      refine JL.ld rfl (LO.loadK 0 (vs := [.slice x_61.a0 m_62.s.length x_61.c0, .slice x_61.a1 m_62.r.length x_61.c1, .slice x_61.a2 m_62.w.length x_61.c2]) rfl rfl Tryz.isAgg32 Tryz.sizeOf32 rfl rfl) ?_
      refine JL.op rfl (JO.call [] Tryz.call28 rfl (P_makeName x_61 m_62 k_60 (by omega) (by omega) [121] (by decide)) rfl (fun w hw => ⟨hw.see (i := 1) rfl, hw.see (i := 2) rfl, hw.see (i := 3) rfl⟩)) ?_
      rintro _ _ ⟨_, ⟨x_70, m_71, n_72, n_74, e_68, k_69, f_73, f_75, rfl, rfl⟩, rfl⟩
      refine JL.pure rfl (PO.move (v := .tuple #[mv x_70 m_71, .int .i64 n_72, .int .i64 n_74]) rfl) ?_
      refine JL.pure rfl (PO.extract (v := mv x_70 m_71) rfl rfl) ?_
      refine JL.pure rfl (PO.extract (v := .int .i64 n_72) rfl rfl) ?_
      refine JL.pure rfl (PO.extract (v := .int .i64 n_74) rfl rfl) ?_
      refine JL.op rfl (JO.alloc (z := .agg #[.slice none 0 0, .slice none 0 0, .slice none 0 0]) (cs := [.slice none 0 0, .slice none 0 0, .slice none 0 0]) Tryz.zeroValue32 rfl) ?_
      rintro _ _ ⟨b_76, rfl, rfl⟩
      refine JL.op rfl (JO.store 0 (vs := [.slice x_70.a0 m_71.s.length x_70.c0, .slice x_70.a1 m_71.r.length x_70.c1, .slice x_70.a2 m_71.w.length x_70.c2]) (cs' := [.slice x_70.a0 m_71.s.length x_70.c0, .slice x_70.a1 m_71.r.length x_70.c1, .slice x_70.a2 m_71.w.length x_70.c2]) rfl rfl rfl rfl Tryz.sizeOf32 rfl rfl (Nat.le_of_ble_eq_true rfl) rfl) ?_
      rintro _ _ rfl
      refine JL.pure rfl (PO.assign (v := .int .i64 n_72) rfl) ?_
      refine JL.pure rfl (PO.assign (v := .int .i64 n_74) rfl) ?_
      refine JL.nil ?_
      refine JQ.sub (L' := [mb b_54 x_50 m_44, rC x_50.a0 x_50.c0 m_44.s, rS x_50.a1 x_50.c1 m_44.r, rS x_50.a2 x_50.c2 m_44.w, mb b_47 x_43 m_44, rC x_43.a0 x_43.c0 m_44.s, rS x_43.a1 x_43.c1 m_44.r, rS x_43.a2 x_43.c2 m_44.w, mb b_17 x_11 m_12, rC x_11.a0 x_11.c0 m_12.s, rS x_11.a1 x_11.c1 m_12.r, rS x_11.a2 x_11.c2 m_12.w, mb b_8 x_2 m_3, rC x_2.a0 x_2.c0 m_3.s, rS x_2.a1 x_2.c1 m_3.r, rS x_2.a2 x_2.c2 m_3.w]) (.cons _ (.cons _ (.cons _ (.cons _ (.cons _ (.cons _ (.cons _ (.cons _ (.cons _ (.cons _ (.cons _ (.cons_cons _ (.cons_cons _ (.cons_cons _ (.cons_cons _ (.cons_cons _ (.cons_cons _ (.cons_cons _ (.cons_cons _ (.cons_cons _ (.cons_cons _ (.cons_cons _ (.cons_cons _ (.cons_cons _ (.cons_cons _ (.cons_cons _ (.cons_cons _ (.slnil)))))))))))))))))))))))))))) ?_
      refine JQ.seq ?_
      refine JC.seq ?_
      refine JC.seq ?_
      refine JC.region ?_
      refine JL.pure rfl (PO.move (v := .int .i64 n_45) rfl) ?_
      refine JL.pure rfl (PO.move (v := .int .i64 n_45) rfl) ?_
      refine JL.pure rfl (PO.neqI rfl rfl) ?_
      refine JL.pure rfl (PO.move (v := .bool (!(decide (n_45 = n_45)))) rfl) ?_
      refine JL.guardOn rfl rfl rfl (congrArg Value.bool (congrArg Bool.not (decide_eq_true rfl))) (JO.ofLO (LO.loadK 4 (vs := [.slice x_43.a0 m_44.s.length x_43.c0, .slice x_43.a1 m_44.r.length x_43.c1, .slice x_43.a2 m_44.w.length x_43.c2]) rfl rfl Tryz.isAgg32 Tryz.sizeOf32 rfl rfl)) ?_
      rintro _ _ ⟨rfl, rfl⟩
      refine JL.guardOn rfl rfl rfl (congrArg Value.bool (congrArg Bool.not (decide_eq_true rfl))) (JO.ofLO (LO.loadK 0 (vs := [.slice x_50.a0 m_44.s.length x_50.c0, .slice x_50.a1 m_44.r.length x_50.c1, .slice x_50.a2 m_44.w.length x_50.c2]) rfl rfl Tryz.isAgg32 Tryz.sizeOf32 rfl rfl)) ?_
      rintro _ _ ⟨rfl, rfl⟩
      refine JL.guardOn rfl rfl rfl (congrArg Value.bool (congrArg Bool.not (decide_eq_true rfl))) (JO.call [] Tryz.call30 rfl (N_sameMach x_43 x_50 m_44 k_42 (by omega) (by omega)) rfl (fun w hw => ⟨⟨hw.see (i := 5) rfl, hw.see (i := 6) rfl, hw.see (i := 7) rfl⟩, ⟨hw.see (i := 1) rfl, hw.see (i := 2) rfl, hw.see (i := 3) rfl⟩⟩)) ?_
      rintro _ _ ⟨_, ⟨rfl, rfl⟩, rfl⟩
      refine JL.guardOn rfl rfl rfl (congrArg Value.bool (congrArg Bool.not (decide_eq_true rfl))) (JO.ofLO (LO.pure (PO.not rfl))) ?_
      rintro _ _ ⟨rfl, rfl⟩
      refine JL.pure rfl (PO.pickF (v := .bool false) (congrArg Value.bool (congrArg Bool.not (decide_eq_true rfl))) rfl) ?_
      refine JL.pure rfl (PO.move (v := .bool false) rfl) ?_
      refine JL.guardOn rfl rfl rfl (congrArg Value.bool rfl) (JO.ofLO (LO.pure (PO.move (v := .int .i64 n_63) rfl))) ?_
      rintro _ _ ⟨rfl, rfl⟩
      refine JL.guardOn rfl rfl rfl (congrArg Value.bool rfl) (JO.ofLO (LO.pure (PO.neqI rfl rfl))) ?_
      rintro _ _ ⟨rfl, rfl⟩
      refine JL.pure rfl (PO.pickF (v := .bool (!(decide (n_63 = 1)))) (congrArg Value.bool rfl) rfl) ?_
      refine JL.pure rfl (PO.move (v := .bool (!(decide (n_63 = 1)))) rfl) ?_
      by_cases h_77 : n_63 = 1
      · skip
        refine JL.guardOn rfl rfl rfl (congrArg Value.bool (congrArg Bool.not (decide_eq_true h_77))) (JO.ofLO (LO.pure (PO.move (v := .int .i64 n_72) rfl))) ?_
        rintro _ _ ⟨rfl, rfl⟩
        refine JL.guardOn rfl rfl rfl (congrArg Value.bool (congrArg Bool.not (decide_eq_true h_77))) (JO.ofLO (LO.pure (PO.neqI rfl rfl))) ?_
        rintro _ _ ⟨rfl, rfl⟩
        refine JL.pure rfl (PO.pickF (v := .bool (!(decide (n_72 = 2)))) (congrArg Value.bool (congrArg Bool.not (decide_eq_true h_77))) rfl) ?_
        refine JL.nil ?_
        refine JQ.sub (L' := [mb b_17 x_11 m_12, rC x_11.a0 x_11.c0 m_12.s, rS x_11.a1 x_11.c1 m_12.r, rS x_11.a2 x_11.c2 m_12.w, mb b_8 x_2 m_3, rC x_2.a0 x_2.c0 m_3.s, rS x_2.a1 x_2.c1 m_3.r, rS x_2.a2 x_2.c2 m_3.w]) (.cons _ (.cons _ (.cons _ (.cons _ (.cons _ (.cons _ (.cons _ (.cons _ (.cons_cons _ (.cons_cons _ (.cons_cons _ (.cons_cons _ (.cons_cons _ (.cons_cons _ (.cons_cons _ (.cons_cons _ (.slnil))))))))))))))))) ?_
        refine JQ.seq ?_
        by_cases h_78 : n_72 = 2
        · skip
          refine JC.condF (congrArg Value.bool (congrArg Bool.not (decide_eq_true h_78))) ?_
          refine JC.skip ?_
          refine JQ.seq ?_
          refine JC.seq ?_
          refine JC.seq ?_
          refine JC.region ?_
          refine JL.pure rfl (PO.move (v := .int .i64 n_15) rfl) ?_
          refine JL.pure rfl (PO.neqI rfl rfl) ?_
          refine JL.nil ?_
          refine JQ.seq ?_
          by_cases h_79 : n_15 = 0
          · skip
            refine JC.condF (congrArg Value.bool (congrArg Bool.not (decide_eq_true h_79))) ?_
            refine JC.skip ?_
            refine JQ.seq ?_
            refine JC.seq ?_
            refine JC.region ?_
            refine JL.ld rfl (LO.loadK 0 (vs := [.slice x_11.a0 m_12.s.length x_11.c0, .slice x_11.a1 m_12.r.length x_11.c1, .slice x_11.a2 m_12.w.length x_11.c2]) rfl rfl Tryz.isAgg32 Tryz.sizeOf32 rfl rfl) ?_
            refine JL.pure rfl (PO.move (v := str u_5) rfl) ?_
            refine JL.op rfl (JO.call [] Tryz.call34 rfl (P_fileOf x_11 m_12 k_10 (by omega) (by omega) u_5 (by omega)) rfl (fun w hw => ⟨hw.see (i := 1) rfl, hw.see (i := 2) rfl, hw.see (i := 3) rfl⟩)) ?_
            rintro _ _ ⟨_, ⟨x_82, m_83, n_84, e_80, k_81, f_85, rfl, rfl⟩, rfl⟩
            refine JL.pure rfl (PO.move (v := .tuple #[mv x_82 m_83, .int .i64 n_84]) rfl) ?_
            refine JL.pure rfl (PO.extract (v := mv x_82 m_83) rfl rfl) ?_
            refine JL.pure rfl (PO.extract (v := .int .i64 n_84) rfl rfl) ?_
            refine JL.op rfl (JO.alloc (z := .agg #[.slice none 0 0, .slice none 0 0, .slice none 0 0]) (cs := [.slice none 0 0, .slice none 0 0, .slice none 0 0]) Tryz.zeroValue32 rfl) ?_
            rintro _ _ ⟨b_86, rfl, rfl⟩
            refine JL.op rfl (JO.store 0 (vs := [.slice x_82.a0 m_83.s.length x_82.c0, .slice x_82.a1 m_83.r.length x_82.c1, .slice x_82.a2 m_83.w.length x_82.c2]) (cs' := [.slice x_82.a0 m_83.s.length x_82.c0, .slice x_82.a1 m_83.r.length x_82.c1, .slice x_82.a2 m_83.w.length x_82.c2]) rfl rfl rfl rfl Tryz.sizeOf32 rfl rfl (Nat.le_of_ble_eq_true rfl) rfl) ?_
            rintro _ _ rfl
            refine JL.pure rfl (PO.assign (v := .int .i64 n_84) rfl) ?_
            refine JL.nil ?_
            refine JQ.sub (L' := [mb b_17 x_11 m_12, rC x_11.a0 x_11.c0 m_12.s, rS x_11.a1 x_11.c1 m_12.r, rS x_11.a2 x_11.c2 m_12.w]) (.cons _ (.cons _ (.cons _ (.cons _ (.cons_cons _ (.cons_cons _ (.cons_cons _ (.cons_cons _ (.cons _ (.cons _ (.cons _ (.cons _ (.slnil))))))))))))) ?_
            refine JQ.seq ?_
            refine JC.seq ?_
            refine JC.region ?_
            refine JL.ld rfl (LO.loadK 0 (vs := [.slice x_11.a0 m_12.s.length x_11.c0, .slice x_11.a1 m_12.r.length x_11.c1, .slice x_11.a2 m_12.w.length x_11.c2]) rfl rfl Tryz.isAgg32 Tryz.sizeOf32 rfl rfl) ?_
            refine JL.pure rfl (PO.move (v := str u_5) rfl) ?_
            refine JL.op rfl (JO.call [] Tryz.call28 rfl (P_makeName x_11 m_12 k_10 (by omega) (by omega) u_5 (by omega)) rfl (fun w hw => ⟨hw.see (i := 1) rfl, hw.see (i := 2) rfl, hw.see (i := 3) rfl⟩)) ?_
            rintro _ _ ⟨_, ⟨x_89, m_90, n_91, n_93, e_87, k_88, f_92, f_94, rfl, rfl⟩, rfl⟩
            refine JL.pure rfl (PO.move (v := .tuple #[mv x_89 m_90, .int .i64 n_91, .int .i64 n_93]) rfl) ?_
            refine JL.pure rfl (PO.extract (v := mv x_89 m_90) rfl rfl) ?_
            refine JL.pure rfl (PO.extract (v := .int .i64 n_91) rfl rfl) ?_
            refine JL.pure rfl (PO.extract (v := .int .i64 n_93) rfl rfl) ?_
            refine JL.op rfl (JO.alloc (z := .agg #[.slice none 0 0, .slice none 0 0, .slice none 0 0]) (cs := [.slice none 0 0, .slice none 0 0, .slice none 0 0]) Tryz.zeroValue32 rfl) ?_
            rintro _ _ ⟨b_95, rfl, rfl⟩
            refine JL.op rfl (JO.store 0 (vs := [.slice x_89.a0 m_90.s.length x_89.c0, .slice x_89.a1 m_90.r.length x_89.c1, .slice x_89.a2 m_90.w.length x_89.c2]) (cs' := [.slice x_89.a0 m_90.s.length x_89.c0, .slice x_89.a1 m_90.r.length x_89.c1, .slice x_89.a2 m_90.w.length x_89.c2]) rfl rfl rfl rfl Tryz.sizeOf32 rfl rfl (Nat.le_of_ble_eq_true rfl) rfl) ?_
            rintro _ _ rfl
            refine JL.pure rfl (PO.assign (v := .int .i64 n_91) rfl) ?_
            refine JL.pure rfl (PO.assign (v := .int .i64 n_93) rfl) ?_
            refine JL.nil ?_
            refine JQ.sub (L' := []) (.cons _ (.cons _ (.cons _ (.cons _ (.cons _ (.cons _ (.cons _ (.cons _ (.slnil))))))))) ?_
            refine JQ.seq ?_
            refine JC.seq ?_
            refine JC.region ?_
            refine JL.pure rfl (PO.move (v := .int .i64 n_84) rfl) ?_
            refine JL.pure rfl (PO.move (v := .int .i64 n_13) rfl) ?_
            refine JL.pure rfl (PO.eqlI rfl rfl) ?_
            refine JL.pure rfl (PO.move (v := .bool (decide (n_84 = n_13))) rfl) ?_
            by_cases h_96 : n_84 = n_13
            · skip
              refine JL.guardOn rfl rfl rfl (congrArg Value.bool (decide_eq_true h_96)) (JO.ofLO (LO.pure (PO.move (v := .int .i64 n_93) rfl))) ?_
              rintro _ _ ⟨rfl, rfl⟩
              refine JL.guardOn rfl rfl rfl (congrArg Value.bool (decide_eq_true h_96)) (JO.ofLO (LO.pure (PO.eqlI rfl rfl))) ?_
              rintro _ _ ⟨rfl, rfl⟩
              refine JL.pure rfl (PO.pickT (v := .bool (decide (n_93 = 1))) (congrArg Value.bool (decide_eq_true h_96)) rfl) ?_
              refine JL.pure rfl (PO.assign (v := .bool (decide (n_93 = 1))) rfl) ?_
              refine JL.nil ?_
              refine JQ.seq ?_
              refine JC.ret ?_
              refine Done.one (.inl rfl) rfl (RV.tmp (v := .bool (decide (n_93 = 1))) rfl) (List.nil_sublist _) ?_
              obtain ⟨hb1, hb2⟩ := pl_make_base e_58 e_59 e_68
              obtain ⟨hn1, hn2⟩ := pl_make_yes e_9 h_79 e_80 e_87
              refine ⟨congrArg Value.bool ?_, rfl⟩
              simp only [decide_eq_true_eq]
              first | omega | assumption | simp_all
            · skip
              refine JL.guardOff (b := false) rfl rfl rfl (congrArg Value.bool (decide_eq_false h_96)) ?_
              refine JL.guardOff (b := false) rfl rfl rfl (congrArg Value.bool (decide_eq_false h_96)) ?_
              refine JL.pure rfl (PO.pickF (v := .bool false) (congrArg Value.bool (decide_eq_false h_96)) rfl) ?_
              refine JL.pure rfl (PO.assign (v := .bool false) rfl) ?_
              refine JL.nil ?_
              refine JQ.seq ?_
              refine JC.ret ?_
              refine Done.one (.inl rfl) rfl (RV.tmp (v := .bool false) rfl) (List.nil_sublist _) ?_
              obtain ⟨hb1, hb2⟩ := pl_make_base e_58 e_59 e_68
              obtain ⟨hn1, hn2⟩ := pl_make_yes e_9 h_79 e_80 e_87
              exfalso
              first | omega | contradiction | simp_all
          · skip
            refine JC.condT (congrArg Value.bool (congrArg Bool.not (decide_eq_false h_79))) ?_
            refine JC.seq ?_
            refine JC.region ?_
            refine JL.pure rfl (PO.move (v := .int .i64 n_13) rfl) ?_
            refine JL.pure rfl (PO.eqlI rfl rfl) ?_
            refine JL.pure rfl (PO.move (v := .bool (decide (n_13 = 0))) rfl) ?_
            by_cases h_97 : n_13 = 0
            · skip
              refine JL.guardOn rfl rfl rfl (congrArg Value.bool (decide_eq_true h_97)) (JO.ofLO (LO.pure (PO.fieldAddr fo32_0 rfl))) ?_
              rintro _ _ ⟨rfl, rfl⟩
              refine JL.guardOn rfl rfl rfl (congrArg Value.bool (decide_eq_true h_97)) (JO.ofLO (LO.load1 0 (v := .slice x_11.a0 m_12.s.length x_11.c0) rfl rfl Tryz.isAgg29 rfl)) ?_
              rintro _ _ ⟨rfl, rfl⟩
              refine JL.guardOn rfl rfl rfl (congrArg Value.bool (decide_eq_true h_97)) (JO.ofLO (LO.pure (PO.fieldAddr fo32_0 rfl))) ?_
              rintro _ _ ⟨rfl, rfl⟩
              refine JL.guardOn rfl rfl rfl (congrArg Value.bool (decide_eq_true h_97)) (JO.ofLO (LO.load1 4 (v := .slice x_2.a0 m_3.s.length x_2.c0) rfl rfl Tryz.isAgg29 rfl)) ?_
              rintro _ _ ⟨rfl, rfl⟩
              refine JL.guardOn rfl rfl rfl (congrArg Value.bool (decide_eq_true h_97)) (JO.call [] Tryz.call37 rfl (C_sameCells x_11.a0 x_2.a0 x_11.c0 x_2.c0 m_12.s m_3.s (by have hl_ := k_10.1; omega)) rfl (fun w hw => ⟨hw.see (i := 1) rfl, hw.see (i := 5) rfl⟩)) ?_
              rintro _ _ ⟨_, ⟨rfl, rfl⟩, rfl⟩
              refine JL.pure rfl (PO.pickT (v := .bool (decide (m_12.s = m_3.s))) (congrArg Value.bool (decide_eq_true h_97)) rfl) ?_
              refine JL.pure rfl (PO.assign (v := .bool (decide (m_12.s = m_3.s))) rfl) ?_
              refine JL.nil ?_
              refine JQ.sub (L' := []) (.cons _ (.cons _ (.cons _ (.cons _ (.cons _ (.cons _ (.cons _ (.cons _ (.slnil))))))))) ?_
              refine JQ.seq ?_
              refine JC.ret ?_
              refine JQ.thenRet ?_
              refine Done.one (.inl rfl) rfl (RV.tmp (v := .bool (decide (m_12.s = m_3.s))) rfl) (List.nil_sublist _) ?_
              obtain ⟨hb1, hb2⟩ := pl_make_base e_58 e_59 e_68
              obtain ⟨hn1, hn2⟩ := pl_make_no e_9 h_79
              refine ⟨congrArg Value.bool ?_, rfl⟩
              simp only [decide_eq_true_eq]
              first | omega | assumption | simp_all
            · skip
              refine JL.guardOff (b := false) rfl rfl rfl (congrArg Value.bool (decide_eq_false h_97)) ?_
              refine JL.guardOff (b := false) rfl rfl rfl (congrArg Value.bool (decide_eq_false h_97)) ?_
              refine JL.guardOff (b := false) rfl rfl rfl (congrArg Value.bool (decide_eq_false h_97)) ?_
              refine JL.guardOff (b := false) rfl rfl rfl (congrArg Value.bool (decide_eq_false h_97)) ?_
              refine JL.guardOff (b := false) rfl rfl rfl (congrArg Value.bool (decide_eq_false h_97)) ?_
              refine JL.pure rfl (PO.pickF (v := .bool false) (congrArg Value.bool (decide_eq_false h_97)) rfl) ?_
              refine JL.pure rfl (PO.assign (v := .bool false) rfl) ?_
              refine JL.nil ?_
              refine JQ.sub (L' := []) (.cons _ (.cons _ (.cons _ (.cons _ (.cons _ (.cons _ (.cons _ (.cons _ (.slnil))))))))) ?_
              refine JQ.seq ?_
              refine JC.ret ?_
              refine JQ.thenRet ?_
              refine Done.one (.inl rfl) rfl (RV.tmp (v := .bool false) rfl) (List.nil_sublist _) ?_
              obtain ⟨hb1, hb2⟩ := pl_make_base e_58 e_59 e_68
              obtain ⟨hn1, hn2⟩ := pl_make_no e_9 h_79
              exfalso
              first | omega | contradiction | simp_all
        · skip
          refine JC.condT (congrArg Value.bool (congrArg Bool.not (decide_eq_false h_78))) ?_
          refine JC.seq ?_
          refine JC.region ?_
          refine JL.pure rfl (PO.assign (v := .bool false) rfl) ?_
          refine JL.nil ?_
          refine JQ.sub (L' := []) (.cons _ (.cons _ (.cons _ (.cons _ (.cons _ (.cons _ (.cons _ (.cons _ (.slnil))))))))) ?_
          refine JQ.seq ?_
          refine JC.ret ?_
          refine JQ.thenRet ?_
          refine Done.one (.inl rfl) rfl (RV.tmp (v := .bool false) rfl) (List.nil_sublist _) ?_
          obtain ⟨hb1, hb2⟩ := pl_make_base e_58 e_59 e_68
          exfalso
          first | omega | contradiction | simp_all
      · skip
        refine JL.guardOff (b := true) rfl rfl rfl (congrArg Value.bool (congrArg Bool.not (decide_eq_false h_77))) ?_
        refine JL.guardOff (b := true) rfl rfl rfl (congrArg Value.bool (congrArg Bool.not (decide_eq_false h_77))) ?_
        refine JL.pure rfl (PO.pickT (v := .bool true) (congrArg Value.bool (congrArg Bool.not (decide_eq_false h_77))) rfl) ?_
        refine JL.nil ?_
        refine JQ.sub (L' := [mb b_17 x_11 m_12, rC x_11.a0 x_11.c0 m_12.s, rS x_11.a1 x_11.c1 m_12.r, rS x_11.a2 x_11.c2 m_12.w, mb b_8 x_2 m_3, rC x_2.a0 x_2.c0 m_3.s, rS x_2.a1 x_2.c1 m_3.r, rS x_2.a2 x_2.c2 m_3.w]) (.cons _ (.cons _ (.cons _ (.cons _ (.cons _ (.cons _ (.cons _ (.cons _ (.cons_cons _ (.cons_cons _ (.cons_cons _ (.cons_cons _ (.cons_cons _ (.cons_cons _ (.cons_cons _ (.cons_cons _ (.slnil))))))))))))))))) ?_
        refine JQ.seq ?_
        refine JC.condT (congrArg Value.bool rfl) ?_
        refine JC.seq ?_
        refine JC.region ?_
        refine JL.pure rfl (PO.assign (v := .bool false) rfl) ?_
        refine JL.nil ?_
        refine JQ.sub (L' := []) (.cons _ (.cons _ (.cons _ (.cons _ (.cons _ (.cons _ (.cons _ (.cons _ (.slnil))))))))) ?_
        refine JQ.seq ?_
        refine JC.ret ?_
        refine JQ.thenRet ?_
        refine Done.one (.inl rfl) rfl (RV.tmp (v := .bool false) rfl) (List.nil_sublist _) ?_
        obtain ⟨hb1, hb2⟩ := pl_make_base e_58 e_59 e_68
        exfalso
        first | omega | contradiction | simp_all
    · skip
      refine JC.condT (congrArg Value.bool (congrArg Bool.not (decide_eq_false h_33))) ?_
      refine JC.seq ?_
      refine JC.region ?_
      refine JL.pure rfl (PO.assign (v := .bool false) rfl) ?_
      refine JL.nil ?_
      refine JQ.sub (L' := []) (.cons _ (.cons _ (.cons _ (.cons _ (.cons _ (.cons _ (.cons _ (.cons _ (.cons _ (.cons _ (.cons _ (.cons _ (.slnil))))))))))))) ?_
      refine JQ.seq ?_
      refine JC.ret ?_
      refine JQ.thenRet ?_
      refine Done.one (.inl rfl) rfl (RV.tmp (v := .bool false) rfl) (List.nil_sublist _) ?_
      exfalso
      first | omega | contradiction | simp_all

end Go.Proofs.YtenfajgpdhgknaaGreatDoor
