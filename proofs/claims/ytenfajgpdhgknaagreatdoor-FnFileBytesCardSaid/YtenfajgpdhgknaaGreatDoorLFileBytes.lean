/-
  A law that draws, walked: it says yes at every row of bytes.
-/
import Derived.Test.YtenfajgpdhgknaaGreatDoorS24DRAWS
import Derived.Test.YtenfajgpdhgknaaGreatDoorDatK
import Derived.Test.YtenfajgpdhgknaaGreatDoorS26DRAWNp1
set_option linter.unusedSimpArgs false
set_option linter.unusedVariables false
set_option linter.unnecessarySimpa false
set_option maxRecDepth 8000
namespace Go.Proofs.YtenfajgpdhgknaaGreatDoor
open Go Go.RowKit
attribute [local irreducible] JL JC JQ JO LO PO JA JX Ct

set_option maxHeartbeats 1600000 in
theorem L_FileBytes (pa : Option Addr) (pc : Nat) (p : Str) :
    Ct Tryz.prog 12 [.slice pa p.length pc] [] (fun w => Sees w (.slice pa p.length pc) 1 p.length (p.map encB) ∧ HexOk w) (fun v A' => v = .bool true ∧ A' = []) := by
  refine Ct.introL Tryz.func12 rfl Tryz.ntmps12 (Nat.le_of_ble_eq_true rfl) fun w0 hpre hlow => ?_
  have hs_pa : Sees w0 _ _ _ _ := hpre.1
  refine JC.seq ?_
  refine JC.region ?_
  refine JL.pure rfl (PO.assign (v := .bool false) rfl) ?_
  refine JL.nil ?_
  refine JQ.seq ?_
  refine JC.seq ?_
  refine JC.seq ?_
  refine JC.region ?_
  refine JL.pure rfl (PO.move (v := .slice pa p.length pc) rfl) ?_
  refine JL.op rfl (JO.call [] Tryz.call26 rfl (N_big pa pc p) rfl (fun _ _ => trivial)) ?_
  rintro _ _ ⟨_, ⟨rfl, rfl⟩, rfl⟩
  refine JL.nil ?_
  refine JQ.seq ?_
  by_cases h_1 : 1048576 < ((p.length : Nat) : Int)
  · skip
    refine JC.condT (congrArg Value.bool (decide_eq_true h_1)) ?_
    refine JC.seq ?_
    refine JC.region ?_
    refine JL.pure rfl (PO.assign (v := .bool true) rfl) ?_
    refine JL.nil ?_
    refine JQ.seq ?_
    refine JC.ret ?_
    refine JQ.thenRet ?_
    refine Done.one (.inl rfl) rfl (RV.tmp (v := .bool true) rfl) (List.nil_sublist _) ?_
    exact ⟨rfl, rfl⟩
  · skip
    refine JC.condF (congrArg Value.bool (decide_eq_false h_1)) ?_
    refine JC.skip ?_
    refine JQ.seq ?_
    refine JC.seq ?_
    refine JC.region ?_
    refine JL.pure rfl (PO.move (v := .slice pa p.length pc) rfl) ?_
    refine JL.op rfl (JO.call [] Tryz.call95 rfl (D_dWriteFile pa pc p (by omega)) rfl (fun w hw => hw.seeOut_ hs_pa (fun _ _ => List.not_mem_nil))) ?_
    rintro _ _ ⟨_, ⟨x_2, m_3, n_5, n_7, u_9, k_4, f_6, f_8, f_10, rfl, rfl⟩, rfl⟩
    refine JL.pure rfl (PO.move (v := .tuple #[mv x_2 m_3, .int .i64 n_5, .int .i64 n_7, str u_9]) rfl) ?_
    refine JL.pure rfl (PO.extract (v := mv x_2 m_3) rfl rfl) ?_
    refine JL.pure rfl (PO.extract (v := .int .i64 n_5) rfl rfl) ?_
    refine JL.pure rfl (PO.extract (v := .int .i64 n_7) rfl rfl) ?_
    refine JL.pure rfl (PO.extract (v := str u_9) rfl rfl) ?_
    refine JL.op rfl (JO.alloc (z := .agg #[.slice none 0 0, .slice none 0 0, .slice none 0 0]) (cs := [.slice none 0 0, .slice none 0 0, .slice none 0 0]) Tryz.zeroValue32 rfl) ?_
    rintro _ _ ⟨b_12, rfl, rfl⟩
    refine JL.op rfl (JO.store 0 (vs := [.slice x_2.a0 m_3.s.length x_2.c0, .slice x_2.a1 m_3.r.length x_2.c1, .slice x_2.a2 m_3.w.length x_2.c2]) (cs' := [.slice x_2.a0 m_3.s.length x_2.c0, .slice x_2.a1 m_3.r.length x_2.c1, .slice x_2.a2 m_3.w.length x_2.c2]) rfl rfl rfl rfl Tryz.sizeOf32 rfl rfl (Nat.le_of_ble_eq_true rfl) rfl) ?_
    rintro _ _ rfl
    refine JL.pure rfl (PO.assign (v := .int .i64 n_5) rfl) ?_
    refine JL.pure rfl (PO.assign (v := .int .i64 n_7) rfl) ?_
    refine JL.pure rfl (PO.assign (v := str u_9) rfl) ?_
    refine JL.nil ?_
    refine JQ.seq ?_
    refine JC.seq ?_
    refine JC.region ?_
    refine JL.ld rfl (LO.loadK 0 (vs := [.slice x_2.a0 m_3.s.length x_2.c0, .slice x_2.a1 m_3.r.length x_2.c1, .slice x_2.a2 m_3.w.length x_2.c2]) rfl rfl Tryz.isAgg32 Tryz.sizeOf32 rfl rfl) ?_
    refine JL.pure rfl (PO.move (v := .int .i64 n_5) rfl) ?_
    refine JL.pure rfl (PO.move (v := .int .i64 n_7) rfl) ?_
    refine JL.pure rfl (PO.move (v := str u_9) rfl) ?_
    refine JL.op rfl (JO.call [] Tryz.call25 rfl (P_writeFile x_2 m_3 k_4 (by omega) (by omega) n_5 n_7 u_9 (by omega) (by omega) (by omega)) rfl (fun w hw => ⟨⟨hw.see (i := 1) rfl, hw.see (i := 2) rfl, hw.see (i := 3) rfl⟩, hw.hex hlow hpre.2⟩)) ?_
    rintro _ _ ⟨_, ⟨x_15, m_16, n_17, e_13, k_14, f_18, rfl, rfl⟩, rfl⟩
    refine JL.pure rfl (PO.move (v := .tuple #[mv x_15 m_16, .int .i64 n_17]) rfl) ?_
    refine JL.pure rfl (PO.extract (v := mv x_15 m_16) rfl rfl) ?_
    refine JL.pure rfl (PO.extract (v := .int .i64 n_17) rfl rfl) ?_
    refine JL.op rfl (JO.alloc (z := .agg #[.slice none 0 0, .slice none 0 0, .slice none 0 0]) (cs := [.slice none 0 0, .slice none 0 0, .slice none 0 0]) Tryz.zeroValue32 rfl) ?_
    rintro _ _ ⟨b_19, rfl, rfl⟩
    refine JL.op rfl (JO.store 0 (vs := [.slice x_15.a0 m_16.s.length x_15.c0, .slice x_15.a1 m_16.r.length x_15.c1, .slice x_15.a2 m_16.w.length x_15.c2]) (cs' := [.slice x_15.a0 m_16.s.length x_15.c0, .slice x_15.a1 m_16.r.length x_15.c1, .slice x_15.a2 m_16.w.length x_15.c2]) rfl rfl rfl rfl Tryz.sizeOf32 rfl rfl (Nat.le_of_ble_eq_true rfl) rfl) ?_
    rintro _ _ rfl
    refine JL.pure rfl (PO.assign (v := .int .i64 n_17) rfl) ?_
    refine JL.nil ?_
    refine JQ.seq ?_
    refine JC.seq ?_
    refine JC.region ?_
    refine JL.ld rfl (LO.loadK 4 (vs := [.slice x_2.a0 m_3.s.length x_2.c0, .slice x_2.a1 m_3.r.length x_2.c1, .slice x_2.a2 m_3.w.length x_2.c2]) rfl rfl Tryz.isAgg32 Tryz.sizeOf32 rfl rfl) ?_
    refine JL.pure rfl (PO.move (v := .int .i64 n_5) rfl) ?_
    refine JL.pure rfl (PO.move (v := .int .i64 n_7) rfl) ?_
    refine JL.pure rfl (PO.move (v := str u_9) rfl) ?_
    refine JL.op rfl (JO.call [] Tryz.call24 rfl (Q_writeFile x_2 m_3 k_4 (by omega) (by omega) n_5 n_7 u_9 (by omega) (by omega) (by omega)) rfl (fun w hw => ⟨hw.see (i := 5) rfl, hw.see (i := 6) rfl, hw.see (i := 7) rfl⟩)) ?_
    rintro _ _ ⟨_, ⟨x_22, m_23, n_24, e_20, k_21, f_25, rfl, rfl⟩, rfl⟩
    have hqe_20 := e_13.symm.trans e_20
    simp only [Prod.mk.injEq] at hqe_20
    obtain ⟨rfl, rfl⟩ := hqe_20
    refine JL.pure rfl (PO.move (v := .tuple #[mv x_22 m_16, .int .i64 n_17]) rfl) ?_
    refine JL.pure rfl (PO.extract (v := mv x_22 m_16) rfl rfl) ?_
    refine JL.pure rfl (PO.extract (v := .int .i64 n_17) rfl rfl) ?_
    refine JL.op rfl (JO.alloc (z := .agg #[.slice none 0 0, .slice none 0 0, .slice none 0 0]) (cs := [.slice none 0 0, .slice none 0 0, .slice none 0 0]) Tryz.zeroValue32 rfl) ?_
    rintro _ _ ⟨b_26, rfl, rfl⟩
    refine JL.op rfl (JO.store 0 (vs := [.slice x_22.a0 m_16.s.length x_22.c0, .slice x_22.a1 m_16.r.length x_22.c1, .slice x_22.a2 m_16.w.length x_22.c2]) (cs' := [.slice x_22.a0 m_16.s.length x_22.c0, .slice x_22.a1 m_16.r.length x_22.c1, .slice x_22.a2 m_16.w.length x_22.c2]) rfl rfl rfl rfl Tryz.sizeOf32 rfl rfl (Nat.le_of_ble_eq_true rfl) rfl) ?_
    rintro _ _ rfl
    refine JL.pure rfl (PO.assign (v := .int .i64 n_17) rfl) ?_
    refine JL.nil ?_
    refine JQ.seq ?_
    refine JC.seq ?_
    refine JC.seq ?_
    refine JC.region ?_
    refine JL.pure rfl (PO.move (v := .int .i64 n_17) rfl) ?_
    refine JL.pure rfl (PO.move (v := .int .i64 n_17) rfl) ?_
    refine JL.pure rfl (PO.neqI rfl rfl) ?_
    refine JL.pure rfl (PO.move (v := .bool (!(decide (n_17 = n_17)))) rfl) ?_
    refine JL.guardOn rfl rfl rfl (congrArg Value.bool (congrArg Bool.not (decide_eq_true rfl))) (JO.ofLO (LO.loadK 4 (vs := [.slice x_15.a0 m_16.s.length x_15.c0, .slice x_15.a1 m_16.r.length x_15.c1, .slice x_15.a2 m_16.w.length x_15.c2]) rfl rfl Tryz.isAgg32 Tryz.sizeOf32 rfl rfl)) ?_
    rintro _ _ ⟨rfl, rfl⟩
    refine JL.guardOn rfl rfl rfl (congrArg Value.bool (congrArg Bool.not (decide_eq_true rfl))) (JO.ofLO (LO.loadK 0 (vs := [.slice x_22.a0 m_16.s.length x_22.c0, .slice x_22.a1 m_16.r.length x_22.c1, .slice x_22.a2 m_16.w.length x_22.c2]) rfl rfl Tryz.isAgg32 Tryz.sizeOf32 rfl rfl)) ?_
    rintro _ _ ⟨rfl, rfl⟩
    refine JL.guardOn rfl rfl rfl (congrArg Value.bool (congrArg Bool.not (decide_eq_true rfl))) (JO.call [] Tryz.call30 rfl (N_sameMach x_15 x_22 m_16 k_14 (by omega) (by omega)) rfl (fun w hw => ⟨⟨hw.see (i := 5) rfl, hw.see (i := 6) rfl, hw.see (i := 7) rfl⟩, ⟨hw.see (i := 1) rfl, hw.see (i := 2) rfl, hw.see (i := 3) rfl⟩⟩)) ?_
    rintro _ _ ⟨_, ⟨rfl, rfl⟩, rfl⟩
    refine JL.guardOn rfl rfl rfl (congrArg Value.bool (congrArg Bool.not (decide_eq_true rfl))) (JO.ofLO (LO.pure (PO.not rfl))) ?_
    rintro _ _ ⟨rfl, rfl⟩
    refine JL.pure rfl (PO.pickF (v := .bool false) (congrArg Value.bool (congrArg Bool.not (decide_eq_true rfl))) rfl) ?_
    refine JL.nil ?_
    refine JQ.seq ?_
    refine JC.condF (congrArg Value.bool rfl) ?_
    refine JC.skip ?_
    refine JQ.seq ?_
    refine JC.seq ?_
    refine JC.region ?_
    refine JL.op rfl (JO.call [] Tryz.call36 rfl (D_base) rfl (fun _ _ => trivial)) ?_
    rintro _ _ ⟨_, ⟨x_27, m_28, e_30, k_29, rfl, rfl⟩, rfl⟩
    refine JL.op rfl (JO.call [] Tryz.call25 rfl (P_writeFile x_27 m_28 k_29 (by omega) (by omega) 1 0 [104, 101, 108, 108, 111, 32, 119, 111, 114, 108, 100] (by omega) (by omega) (by decide)) rfl (fun w hw => ⟨⟨hw.see (i := 0) rfl, hw.see (i := 1) rfl, hw.see (i := 2) rfl⟩, hw.hex hlow hpre.2⟩)) ?_
    rintro _ _ ⟨_, ⟨x_33, m_34, n_35, e_31, k_32, f_36, rfl, rfl⟩, rfl⟩
    refine JL.pure rfl (PO.move (v := .tuple #[mv x_33 m_34, .int .i64 n_35]) rfl) ?_
    refine JL.pure rfl (PO.extract (v := mv x_33 m_34) rfl rfl) ?_
    refine JL.pure rfl (PO.extract (v := .int .i64 n_35) rfl rfl) ?_
    refine JL.op rfl (JO.alloc (z := .agg #[.slice none 0 0, .slice none 0 0, .slice none 0 0]) (cs := [.slice none 0 0, .slice none 0 0, .slice none 0 0]) Tryz.zeroValue32 rfl) ?_
    rintro _ _ ⟨b_37, rfl, rfl⟩
    refine JL.op rfl (JO.store 0 (vs := [.slice x_33.a0 m_34.s.length x_33.c0, .slice x_33.a1 m_34.r.length x_33.c1, .slice x_33.a2 m_34.w.length x_33.c2]) (cs' := [.slice x_33.a0 m_34.s.length x_33.c0, .slice x_33.a1 m_34.r.length x_33.c1, .slice x_33.a2 m_34.w.length x_33.c2]) rfl rfl rfl rfl Tryz.sizeOf32 rfl rfl (Nat.le_of_ble_eq_true rfl) rfl) ?_
    rintro _ _ rfl
    refine JL.pure rfl (PO.assign (v := .int .i64 n_35) rfl) ?_
    refine JL.nil ?_
    refine JQ.sub (L' := [mb b_37 x_33 m_34, rC x_33.a0 x_33.c0 m_34.s, rS x_33.a1 x_33.c1 m_34.r, rS x_33.a2 x_33.c2 m_34.w, mb b_19 x_15 m_16, rC x_15.a0 x_15.c0 m_16.s, rS x_15.a1 x_15.c1 m_16.r, rS x_15.a2 x_15.c2 m_16.w, mb b_12 x_2 m_3, rC x_2.a0 x_2.c0 m_3.s, rS x_2.a1 x_2.c1 m_3.r, rS x_2.a2 x_2.c2 m_3.w]) (.cons_cons _ (.cons_cons _ (.cons_cons _ (.cons_cons _ (.cons _ (.cons _ (.cons _ (.cons _ (.cons _ (.cons _ (.cons _ (.cons_cons _ (.cons_cons _ (.cons_cons _ (.cons_cons _ (.cons_cons _ (.cons_cons _ (.cons_cons _ (.cons_cons _ (.slnil)))))))))))))))))))) ?_
    refine JQ.seq ?_
    refine JC.seq ?_
    refine JC.region ?_
    refine JL.ld rfl (LO.loadK 0 (vs := [.slice x_33.a0 m_34.s.length x_33.c0, .slice x_33.a1 m_34.r.length x_33.c1, .slice x_33.a2 m_34.w.length x_33.c2]) rfl rfl Tryz.isAgg32 Tryz.sizeOf32 rfl rfl) ?_
    refine JL.op rfl (JO.call [] Tryz.call25 rfl (P_writeFile x_33 m_34 k_32 (by omega) (by omega) 1 6 [119, 48] (by omega) (by omega) (by decide)) rfl (fun w hw => ⟨⟨hw.see (i := 1) rfl, hw.see (i := 2) rfl, hw.see (i := 3) rfl⟩, hw.hex hlow hpre.2⟩)) ?_
    rintro _ _ ⟨_, ⟨x_40, m_41, n_42, e_38, k_39, f_43, rfl, rfl⟩, rfl⟩
    refine JL.pure rfl (PO.move (v := .tuple #[mv x_40 m_41, .int .i64 n_42]) rfl) ?_
    refine JL.pure rfl (PO.extract (v := mv x_40 m_41) rfl rfl) ?_
    refine JL.pure rfl (PO.extract (v := .int .i64 n_42) rfl rfl) ?_
    refine JL.op rfl (JO.store 3 (vs := [.slice x_40.a0 m_41.s.length x_40.c0, .slice x_40.a1 m_41.r.length x_40.c1, .slice x_40.a2 m_41.w.length x_40.c2]) (cs' := [.slice x_40.a0 m_41.s.length x_40.c0, .slice x_40.a1 m_41.r.length x_40.c1, .slice x_40.a2 m_41.w.length x_40.c2]) rfl rfl rfl rfl Tryz.sizeOf32 rfl rfl (Nat.le_of_ble_eq_true rfl) rfl) ?_
    rintro _ _ rfl
    refine JL.pure rfl (PO.assign (v := .int .i64 n_42) rfl) ?_
    refine JL.nil ?_
    refine JQ.seq ?_
    refine JC.seq ?_
    refine JC.region ?_
    refine JL.ld rfl (LO.loadK 3 (vs := [.slice x_40.a0 m_41.s.length x_40.c0, .slice x_40.a1 m_41.r.length x_40.c1, .slice x_40.a2 m_41.w.length x_40.c2]) rfl rfl Tryz.isAgg32 Tryz.sizeOf32 rfl rfl) ?_
    refine JL.op rfl (JO.call [] Tryz.call96 rfl (P_textOf x_40 m_41 k_39 (by omega) (by omega) 1 (by omega)) rfl (fun w hw => ⟨⟨hw.see (i := 0) rfl, hw.see (i := 1) rfl, hw.see (i := 2) rfl⟩, hw.hex hlow hpre.2⟩)) ?_
    rintro _ _ ⟨_, ⟨x_46, m_47, u_48, e_44, k_45, f_49, rfl, rfl⟩, rfl⟩
    refine JL.pure rfl (PO.move (v := .tuple #[mv x_46 m_47, str u_48]) rfl) ?_
    refine JL.pure rfl (PO.extract (v := mv x_46 m_47) rfl rfl) ?_
    refine JL.pure rfl (PO.extract (v := str u_48) rfl rfl) ?_
    refine JL.op rfl (JO.alloc (z := .agg #[.slice none 0 0, .slice none 0 0, .slice none 0 0]) (cs := [.slice none 0 0, .slice none 0 0, .slice none 0 0]) Tryz.zeroValue32 rfl) ?_
    rintro _ _ ⟨b_50, rfl, rfl⟩
    refine JL.op rfl (JO.store 0 (vs := [.slice x_46.a0 m_47.s.length x_46.c0, .slice x_46.a1 m_47.r.length x_46.c1, .slice x_46.a2 m_47.w.length x_46.c2]) (cs' := [.slice x_46.a0 m_47.s.length x_46.c0, .slice x_46.a1 m_47.r.length x_46.c1, .slice x_46.a2 m_47.w.length x_46.c2]) rfl rfl rfl rfl Tryz.sizeOf32 rfl rfl (Nat.le_of_ble_eq_true rfl) rfl) ?_
    rintro _ _ rfl
    refine JL.pure rfl (PO.assign (v := str u_48) rfl) ?_
    refine JL.nil ?_
    refine JQ.sub (L' := [rC x_40.a0 x_40.c0 m_41.s, rS x_40.a1 x_40.c1 m_41.r, rS x_40.a2 x_40.c2 m_41.w, mb b_37 x_40 m_41, mb b_19 x_15 m_16, rC x_15.a0 x_15.c0 m_16.s, rS x_15.a1 x_15.c1 m_16.r, rS x_15.a2 x_15.c2 m_16.w, mb b_12 x_2 m_3, rC x_2.a0 x_2.c0 m_3.s, rS x_2.a1 x_2.c1 m_3.r, rS x_2.a2 x_2.c2 m_3.w]) (.cons _ (.cons _ (.cons _ (.cons _ (.cons_cons _ (.cons_cons _ (.cons_cons _ (.cons_cons _ (.cons _ (.cons _ (.cons _ (.cons_cons _ (.cons_cons _ (.cons_cons _ (.cons_cons _ (.cons_cons _ (.cons_cons _ (.cons_cons _ (.cons_cons _ (.slnil)))))))))))))))))))) ?_
    refine JQ.seq ?_
    refine JC.seq ?_
    refine JC.region ?_
    refine JL.pure rfl (PO.move (v := .slice pa p.length pc) rfl) ?_
    refine JL.op rfl (JO.call [] Tryz.call63 rfl (D_dPlaces pa pc p (by omega)) rfl (fun w hw => hw.seeOut_ hs_pa (fun _ _ => List.not_mem_nil))) ?_
    rintro _ _ ⟨_, ⟨l_51a, l_51c, l_51, f_52, rfl, rfl⟩, rfl⟩
    refine JL.pure rfl (PO.assign (v := .slice l_51a l_51.length l_51c) rfl) ?_
    refine JL.nil ?_
    refine JQ.seq ?_
    refine JC.seq ?_
    refine JC.region ?_
    refine JL.pure rfl (PO.move (v := .slice l_51a l_51.length l_51c) rfl) ?_
    refine JL.facts fun hst => ?_
    obtain ⟨hr_54, hr_54b, -⟩ := row_some 0 rfl (by omega) hst
    refine JL.pure rfl (PO.indexAddrV (i := 0) Tryz.underlying70 Tryz.sizeOf3 hr_54 hr_54b rfl rfl (by omega)) ?_
    refine JL.ld rfl (LO.loadR1 0 (v := .int .i64 (l_51.getD 0 0)) rfl rfl Tryz.isAgg3 (atI (by omega))) ?_
    obtain ⟨kk_55, hkk_56⟩ : ∃ kk_55 : Nat, l_51.getD 0 0 = ((kk_55 : Nat) : Int) := ⟨(l_51.getD 0 0).toNat, by have hlo_ := f_52.2 _ (getD_mem (d := 0) (show 0 < l_51.length by omega)); omega⟩
    refine JL.pure rfl (PO.remN (c := ((kk_55 % 12 : Nat) : Int)) (congrArg (Value.int .i64) hkk_56) rfl (by omega) (by omega) (by omega)) ?_
    refine JL.pure rfl (PO.assign (v := .int .i64 ((kk_55 % 12 : Nat) : Int)) rfl) ?_
    refine JL.nil ?_
    refine JQ.seq ?_
    refine JC.seq ?_
    refine JC.region ?_
    refine JL.pure rfl (PO.move (v := .slice l_51a l_51.length l_51c) rfl) ?_
    refine JL.pure rfl (PO.indexAddrV (i := 1) Tryz.underlying70 Tryz.sizeOf3 hr_54 hr_54b rfl rfl (by omega)) ?_
    refine JL.ld rfl (LO.loadR1 0 (v := .int .i64 (l_51.getD 1 0)) rfl rfl Tryz.isAgg3 (atI (by omega))) ?_
    obtain ⟨kk_57, hkk_58⟩ : ∃ kk_57 : Nat, l_51.getD 1 0 = ((kk_57 : Nat) : Int) := ⟨(l_51.getD 1 0).toNat, by have hlo_ := f_52.2 _ (getD_mem (d := 0) (show 1 < l_51.length by omega)); omega⟩
    refine JL.pure rfl (PO.remN (c := ((kk_57 % 12 : Nat) : Int)) (congrArg (Value.int .i64) hkk_58) rfl (by omega) (by omega) (by omega)) ?_
    refine JL.pure rfl (PO.add (c := ((1 + (kk_57 % 12) : Nat) : Int)) rfl rfl (wr (by omega))) ?_
    refine JL.pure rfl (PO.assign (v := .int .i64 ((1 + (kk_57 % 12) : Nat) : Int)) rfl) ?_
    refine JL.nil ?_
    refine JQ.seq ?_
    refine JC.seq ?_
    refine JC.region ?_
    refine JL.ld rfl (LO.loadK 4 (vs := [.slice x_40.a0 m_41.s.length x_40.c0, .slice x_40.a1 m_41.r.length x_40.c1, .slice x_40.a2 m_41.w.length x_40.c2]) rfl rfl Tryz.isAgg32 Tryz.sizeOf32 rfl rfl) ?_
    refine JL.pure rfl (PO.move (v := .int .i64 ((kk_55 % 12 : Nat) : Int)) rfl) ?_
    refine JL.pure rfl (PO.move (v := .int .i64 ((1 + (kk_57 % 12) : Nat) : Int)) rfl) ?_
    refine JL.op rfl (JO.call [] Tryz.call97 rfl (P_readFile x_40 m_41 k_39 (by omega) (by omega) 1 ((kk_55 % 12 : Nat) : Int) ((1 + (kk_57 % 12) : Nat) : Int) (by omega) (by omega) (by omega)) rfl (fun w hw => ⟨⟨hw.see (i := 1) rfl, hw.see (i := 2) rfl, hw.see (i := 3) rfl⟩, hw.hex hlow hpre.2⟩)) ?_
    rintro _ _ ⟨_, ⟨x_61, m_62, u_63, e_59, k_60, f_64, rfl, rfl⟩, rfl⟩
    refine JL.pure rfl (PO.move (v := .tuple #[mv x_61 m_62, str u_63]) rfl) ?_
    refine JL.pure rfl (PO.extract (v := mv x_61 m_62) rfl rfl) ?_
    refine JL.pure rfl (PO.extract (v := str u_63) rfl rfl) ?_
    refine JL.op rfl (JO.alloc (z := .agg #[.slice none 0 0, .slice none 0 0, .slice none 0 0]) (cs := [.slice none 0 0, .slice none 0 0, .slice none 0 0]) Tryz.zeroValue32 rfl) ?_
    rintro _ _ ⟨b_65, rfl, rfl⟩
    refine JL.op rfl (JO.store 0 (vs := [.slice x_61.a0 m_62.s.length x_61.c0, .slice x_61.a1 m_62.r.length x_61.c1, .slice x_61.a2 m_62.w.length x_61.c2]) (cs' := [.slice x_61.a0 m_62.s.length x_61.c0, .slice x_61.a1 m_62.r.length x_61.c1, .slice x_61.a2 m_62.w.length x_61.c2]) rfl rfl rfl rfl Tryz.sizeOf32 rfl rfl (Nat.le_of_ble_eq_true rfl) rfl) ?_
    rintro _ _ rfl
    refine JL.pure rfl (PO.assign (v := str u_63) rfl) ?_
    refine JL.nil ?_
    refine JQ.sub (L' := [mb b_19 x_15 m_16, rC x_15.a0 x_15.c0 m_16.s, rS x_15.a1 x_15.c1 m_16.r, rS x_15.a2 x_15.c2 m_16.w, mb b_12 x_2 m_3, rC x_2.a0 x_2.c0 m_3.s, rS x_2.a1 x_2.c1 m_3.r, rS x_2.a2 x_2.c2 m_3.w]) (.cons _ (.cons _ (.cons _ (.cons _ (.cons _ (.cons _ (.cons _ (.cons _ (.cons _ (.cons_cons _ (.cons_cons _ (.cons_cons _ (.cons_cons _ (.cons_cons _ (.cons_cons _ (.cons_cons _ (.cons_cons _ (.slnil)))))))))))))))))) ?_
    refine JQ.seq ?_
    refine JC.seq ?_
    refine JC.region ?_
    refine JL.pure rfl (PO.move (v := .int .i64 ((kk_55 % 12 : Nat) : Int)) rfl) ?_
    refine JL.pure rfl (PO.move (v := .int .i64 ((1 + (kk_57 % 12) : Nat) : Int)) rfl) ?_
    refine JL.pure rfl (PO.add (c := (((kk_55 % 12) + (1 + (kk_57 % 12)) : Nat) : Int)) rfl rfl (wr (by omega))) ?_
    refine JL.pure rfl (PO.assign (v := .int .i64 (((kk_55 % 12) + (1 + (kk_57 % 12)) : Nat) : Int)) rfl) ?_
    refine JL.nil ?_
    refine JQ.seq ?_
    refine JC.seq ?_
    refine JC.seq ?_
    refine JC.region ?_
    refine JL.pure rfl (PO.move (v := .int .i64 (((kk_55 % 12) + (1 + (kk_57 % 12)) : Nat) : Int)) rfl) ?_
    refine JL.pure rfl (PO.gtr rfl rfl) ?_
    refine JL.nil ?_
    refine JQ.seq ?_
    by_cases h_66 : 11 < (((kk_55 % 12) + (1 + (kk_57 % 12)) : Nat) : Int)
    · skip
      refine JC.condT (congrArg Value.bool (decide_eq_true h_66)) ?_
      refine JC.region ?_
      refine JL.pure rfl (PO.assign (v := .int .i64 11) rfl) ?_
      refine JL.nil ?_
      refine JQ.seq ?_
      refine JC.seq ?_
      refine JC.region ?_
      refine JL.pure rfl (PO.assign (v := str [104, 101, 108, 108, 111, 32, 119, 48, 114, 108, 100]) rfl) ?_
      refine JL.nil ?_
      refine JQ.seq ?_
      refine JC.seq ?_
      refine JC.region ?_
      refine JL.pure rfl (PO.assign (v := str []) rfl) ?_
      refine JL.nil ?_
      refine JQ.seq ?_
      refine JC.seq ?_
      refine JC.seq ?_
      refine JC.region ?_
      refine JL.pure rfl (PO.move (v := .int .i64 ((kk_55 % 12 : Nat) : Int)) rfl) ?_
      refine JL.pure rfl (PO.lss rfl rfl) ?_
      refine JL.nil ?_
      refine JQ.seq ?_
      by_cases h_67 : ((kk_55 % 12 : Nat) : Int) < 11
      · skip
        refine JC.condT (congrArg Value.bool (decide_eq_true h_67)) ?_
        refine JC.region ?_
        refine JL.pure rfl (PO.move (v := str [104, 101, 108, 108, 111, 32, 119, 48, 114, 108, 100]) rfl) ?_
        refine JL.pure rfl (PO.move (v := .int .i64 ((kk_55 % 12 : Nat) : Int)) rfl) ?_
        refine JL.pure rfl (PO.move (v := .int .i64 11) rfl) ?_
        refine JL.pure rfl (PO.sliceS (i := (kk_55 % 12)) (j := 11) Tryz.underlying9 rfl rfl rfl (by omega) (by simp only [List.length_cons, List.length_nil]; omega)) ?_
        refine JL.pure rfl (PO.assign (v := str ((([104, 101, 108, 108, 111, 32, 119, 48, 114, 108, 100] : Str).drop (kk_55 % 12)).take (11 - (kk_55 % 12)))) rfl) ?_
        refine JL.nil ?_
        refine JQ.seq ?_
        refine JC.seq ?_
        refine JC.seq ?_
        refine JC.region ?_
        refine JL.pure rfl (PO.move (v := .int .i64 n_35) rfl) ?_
        refine JL.pure rfl (PO.neqI rfl rfl) ?_
        refine JL.pure rfl (PO.move (v := .bool (!(decide (n_35 = 0)))) rfl) ?_
        by_cases h_68 : n_35 = 0
        · skip
          refine JL.guardOn rfl rfl rfl (congrArg Value.bool (congrArg Bool.not (decide_eq_true h_68))) (JO.ofLO (LO.pure (PO.move (v := .int .i64 n_42) rfl))) ?_
          rintro _ _ ⟨rfl, rfl⟩
          refine JL.guardOn rfl rfl rfl (congrArg Value.bool (congrArg Bool.not (decide_eq_true h_68))) (JO.ofLO (LO.pure (PO.neqI rfl rfl))) ?_
          rintro _ _ ⟨rfl, rfl⟩
          refine JL.pure rfl (PO.pickF (v := .bool (!(decide (n_42 = 0)))) (congrArg Value.bool (congrArg Bool.not (decide_eq_true h_68))) rfl) ?_
          refine JL.pure rfl (PO.move (v := .bool (!(decide (n_42 = 0)))) rfl) ?_
          by_cases h_69 : n_42 = 0
          · skip
            refine JL.guardOn rfl rfl rfl (congrArg Value.bool (congrArg Bool.not (decide_eq_true h_69))) (JO.ofLO (LO.pure (PO.move (v := str u_48) rfl))) ?_
            rintro _ _ ⟨rfl, rfl⟩
            refine JL.guardOn rfl rfl rfl (congrArg Value.bool (congrArg Bool.not (decide_eq_true h_69))) (JO.ofLO (LO.pure (PO.move (v := str [104, 101, 108, 108, 111, 32, 119, 48, 114, 108, 100]) rfl))) ?_
            rintro _ _ ⟨rfl, rfl⟩
            refine JL.guardOn rfl rfl rfl (congrArg Value.bool (congrArg Bool.not (decide_eq_true h_69))) (JO.ofLO (LO.pure (PO.neqS rfl rfl))) ?_
            rintro _ _ ⟨rfl, rfl⟩
            refine JL.pure rfl (PO.pickF (v := .bool (!(decide (u_48 = [104, 101, 108, 108, 111, 32, 119, 48, 114, 108, 100])))) (congrArg Value.bool (congrArg Bool.not (decide_eq_true h_69))) rfl) ?_
            refine JL.pure rfl (PO.move (v := .bool (!(decide (u_48 = [104, 101, 108, 108, 111, 32, 119, 48, 114, 108, 100])))) rfl) ?_
            by_cases h_70 : u_48 = [104, 101, 108, 108, 111, 32, 119, 48, 114, 108, 100]
            · skip
              refine JL.guardOn rfl rfl rfl (congrArg Value.bool (congrArg Bool.not (decide_eq_true h_70))) (JO.ofLO (LO.pure (PO.move (v := str u_63) rfl))) ?_
              rintro _ _ ⟨rfl, rfl⟩
              refine JL.guardOn rfl rfl rfl (congrArg Value.bool (congrArg Bool.not (decide_eq_true h_70))) (JO.ofLO (LO.pure (PO.move (v := str ((([104, 101, 108, 108, 111, 32, 119, 48, 114, 108, 100] : Str).drop (kk_55 % 12)).take (11 - (kk_55 % 12)))) rfl))) ?_
              rintro _ _ ⟨rfl, rfl⟩
              refine JL.guardOn rfl rfl rfl (congrArg Value.bool (congrArg Bool.not (decide_eq_true h_70))) (JO.ofLO (LO.pure (PO.neqS rfl rfl))) ?_
              rintro _ _ ⟨rfl, rfl⟩
              refine JL.pure rfl (PO.pickF (v := .bool (!(decide (u_63 = ((([104, 101, 108, 108, 111, 32, 119, 48, 114, 108, 100] : Str).drop (kk_55 % 12)).take (11 - (kk_55 % 12))))))) (congrArg Value.bool (congrArg Bool.not (decide_eq_true h_70))) rfl) ?_
              refine JL.nil ?_
              refine JQ.seq ?_
              by_cases h_71 : u_63 = ((([104, 101, 108, 108, 111, 32, 119, 48, 114, 108, 100] : Str).drop (kk_55 % 12)).take (11 - (kk_55 % 12)))
              · skip
                refine JC.condF (congrArg Value.bool (congrArg Bool.not (decide_eq_true h_71))) ?_
                refine JC.skip ?_
                refine JQ.seq ?_
                refine JC.seq ?_
                refine JC.seq ?_
                refine JC.region ?_
                refine JL.pure rfl (PO.move (v := .int .i64 n_17) rfl) ?_
                refine JL.pure rfl (PO.neqI rfl rfl) ?_
                refine JL.nil ?_
                refine JQ.seq ?_
                by_cases h_72 : n_17 = 0
                · skip
                  refine JC.condF (congrArg Value.bool (congrArg Bool.not (decide_eq_true h_72))) ?_
                  refine JC.skip ?_
                  refine JQ.sub (L' := []) (.cons _ (.cons _ (.cons _ (.cons _ (.cons _ (.cons _ (.cons _ (.cons _ (.slnil))))))))) ?_
                  refine JQ.seq ?_
                  refine JC.seq ?_
                  refine JC.region ?_
                  refine JL.pure rfl (PO.assign (v := .bool true) rfl) ?_
                  refine JL.nil ?_
                  refine JQ.seq ?_
                  refine JC.ret ?_
                  refine Done.one (.inl rfl) rfl (RV.tmp (v := .bool true) rfl) (List.nil_sublist _) ?_
                  exact ⟨rfl, rfl⟩
                · skip
                  refine JC.condT (congrArg Value.bool (congrArg Bool.not (decide_eq_false h_72))) ?_
                  refine JC.seq ?_
                  refine JC.region ?_
                  refine JL.pure rfl (PO.fieldAddr fo32_0 rfl) ?_
                  refine JL.ld rfl (LO.load1 0 (v := .slice x_15.a0 m_16.s.length x_15.c0) rfl rfl Tryz.isAgg29 rfl) ?_
                  refine JL.pure rfl (PO.fieldAddr fo32_0 rfl) ?_
                  refine JL.ld rfl (LO.load1 4 (v := .slice x_2.a0 m_3.s.length x_2.c0) rfl rfl Tryz.isAgg29 rfl) ?_
                  refine JL.op rfl (JO.call [] Tryz.call37 rfl (C_sameCells x_15.a0 x_2.a0 x_15.c0 x_2.c0 m_16.s m_3.s (by have hl_ := k_14.1; omega)) rfl (fun w hw => ⟨hw.see (i := 1) rfl, hw.see (i := 5) rfl⟩)) ?_
                  rintro _ _ ⟨_, ⟨rfl, rfl⟩, rfl⟩
                  refine JL.pure rfl (PO.assign (v := .bool (decide (m_16.s = m_3.s))) rfl) ?_
                  refine JL.nil ?_
                  refine JQ.sub (L' := []) (.cons _ (.cons _ (.cons _ (.cons _ (.cons _ (.cons _ (.cons _ (.cons _ (.slnil))))))))) ?_
                  refine JQ.seq ?_
                  refine JC.ret ?_
                  refine JQ.thenRet ?_
                  refine Done.one (.inl rfl) rfl (RV.tmp (v := .bool (decide (m_16.s = m_3.s))) rfl) (List.nil_sublist _) ?_
                  obtain ⟨hb1, hb2, hb3⟩ := pl_bytes e_30 e_31 e_38 e_44
                  have hb4 := pl_part_in (E := 11) e_30 e_31 e_38 e_59 (by omega) (by omega)
                  have hc1 := pl_write e_13
                  refine ⟨congrArg Value.bool ?_, rfl⟩
                  simp only [decide_eq_true_eq]
                  first | omega | assumption | simp_all
              · skip
                refine JC.condT (congrArg Value.bool (congrArg Bool.not (decide_eq_false h_71))) ?_
                refine JC.seq ?_
                refine JC.region ?_
                refine JL.pure rfl (PO.assign (v := .bool false) rfl) ?_
                refine JL.nil ?_
                refine JQ.sub (L' := []) (.cons _ (.cons _ (.cons _ (.cons _ (.cons _ (.cons _ (.cons _ (.cons _ (.slnil))))))))) ?_
                refine JQ.seq ?_
                refine JC.ret ?_
                refine JQ.thenRet ?_
                refine Done.one (.inl rfl) rfl (RV.tmp (v := .bool false) rfl) (List.nil_sublist _) ?_
                obtain ⟨hb1, hb2, hb3⟩ := pl_bytes e_30 e_31 e_38 e_44
                have hb4 := pl_part_in (E := 11) e_30 e_31 e_38 e_59 (by omega) (by omega)
                have hc1 := pl_write e_13
                exfalso
                first | omega | contradiction | simp_all
            · skip
              refine JL.guardOff (b := true) rfl rfl rfl (congrArg Value.bool (congrArg Bool.not (decide_eq_false h_70))) ?_
              refine JL.guardOff (b := true) rfl rfl rfl (congrArg Value.bool (congrArg Bool.not (decide_eq_false h_70))) ?_
              refine JL.guardOff (b := true) rfl rfl rfl (congrArg Value.bool (congrArg Bool.not (decide_eq_false h_70))) ?_
              refine JL.pure rfl (PO.pickT (v := .bool true) (congrArg Value.bool (congrArg Bool.not (decide_eq_false h_70))) rfl) ?_
              refine JL.nil ?_
              refine JQ.seq ?_
              refine JC.condT (congrArg Value.bool rfl) ?_
              refine JC.seq ?_
              refine JC.region ?_
              refine JL.pure rfl (PO.assign (v := .bool false) rfl) ?_
              refine JL.nil ?_
              refine JQ.sub (L' := []) (.cons _ (.cons _ (.cons _ (.cons _ (.cons _ (.cons _ (.cons _ (.cons _ (.slnil))))))))) ?_
              refine JQ.seq ?_
              refine JC.ret ?_
              refine JQ.thenRet ?_
              refine Done.one (.inl rfl) rfl (RV.tmp (v := .bool false) rfl) (List.nil_sublist _) ?_
              obtain ⟨hb1, hb2, hb3⟩ := pl_bytes e_30 e_31 e_38 e_44
              have hb4 := pl_part_in (E := 11) e_30 e_31 e_38 e_59 (by omega) (by omega)
              have hc1 := pl_write e_13
              exfalso
              first | omega | contradiction | simp_all
          · skip
            refine JL.guardOff (b := true) rfl rfl rfl (congrArg Value.bool (congrArg Bool.not (decide_eq_false h_69))) ?_
            refine JL.guardOff (b := true) rfl rfl rfl (congrArg Value.bool (congrArg Bool.not (decide_eq_false h_69))) ?_
            refine JL.guardOff (b := true) rfl rfl rfl (congrArg Value.bool (congrArg Bool.not (decide_eq_false h_69))) ?_
            refine JL.pure rfl (PO.pickT (v := .bool true) (congrArg Value.bool (congrArg Bool.not (decide_eq_false h_69))) rfl) ?_
            refine JL.pure rfl (PO.move (v := .bool true) rfl) ?_
            refine JL.guardOff (b := true) rfl rfl rfl (congrArg Value.bool rfl) ?_
            refine JL.guardOff (b := true) rfl rfl rfl (congrArg Value.bool rfl) ?_
            refine JL.guardOff (b := true) rfl rfl rfl (congrArg Value.bool rfl) ?_
            refine JL.pure rfl (PO.pickT (v := .bool true) (congrArg Value.bool rfl) rfl) ?_
            refine JL.nil ?_
            refine JQ.seq ?_
            refine JC.condT (congrArg Value.bool rfl) ?_
            refine JC.seq ?_
            refine JC.region ?_
            refine JL.pure rfl (PO.assign (v := .bool false) rfl) ?_
            refine JL.nil ?_
            refine JQ.sub (L' := []) (.cons _ (.cons _ (.cons _ (.cons _ (.cons _ (.cons _ (.cons _ (.cons _ (.slnil))))))))) ?_
            refine JQ.seq ?_
            refine JC.ret ?_
            refine JQ.thenRet ?_
            refine Done.one (.inl rfl) rfl (RV.tmp (v := .bool false) rfl) (List.nil_sublist _) ?_
            obtain ⟨hb1, hb2, hb3⟩ := pl_bytes e_30 e_31 e_38 e_44
            have hb4 := pl_part_in (E := 11) e_30 e_31 e_38 e_59 (by omega) (by omega)
            have hc1 := pl_write e_13
            exfalso
            first | omega | contradiction | simp_all
        · skip
          refine JL.guardOff (b := true) rfl rfl rfl (congrArg Value.bool (congrArg Bool.not (decide_eq_false h_68))) ?_
          refine JL.guardOff (b := true) rfl rfl rfl (congrArg Value.bool (congrArg Bool.not (decide_eq_false h_68))) ?_
          refine JL.pure rfl (PO.pickT (v := .bool true) (congrArg Value.bool (congrArg Bool.not (decide_eq_false h_68))) rfl) ?_
          refine JL.pure rfl (PO.move (v := .bool true) rfl) ?_
          refine JL.guardOff (b := true) rfl rfl rfl (congrArg Value.bool rfl) ?_
          refine JL.guardOff (b := true) rfl rfl rfl (congrArg Value.bool rfl) ?_
          refine JL.guardOff (b := true) rfl rfl rfl (congrArg Value.bool rfl) ?_
          refine JL.pure rfl (PO.pickT (v := .bool true) (congrArg Value.bool rfl) rfl) ?_
          refine JL.pure rfl (PO.move (v := .bool true) rfl) ?_
          refine JL.guardOff (b := true) rfl rfl rfl (congrArg Value.bool rfl) ?_
          refine JL.guardOff (b := true) rfl rfl rfl (congrArg Value.bool rfl) ?_
          refine JL.guardOff (b := true) rfl rfl rfl (congrArg Value.bool rfl) ?_
          refine JL.pure rfl (PO.pickT (v := .bool true) (congrArg Value.bool rfl) rfl) ?_
          refine JL.nil ?_
          refine JQ.seq ?_
          refine JC.condT (congrArg Value.bool rfl) ?_
          refine JC.seq ?_
          refine JC.region ?_
          refine JL.pure rfl (PO.assign (v := .bool false) rfl) ?_
          refine JL.nil ?_
          refine JQ.sub (L' := []) (.cons _ (.cons _ (.cons _ (.cons _ (.cons _ (.cons _ (.cons _ (.cons _ (.slnil))))))))) ?_
          refine JQ.seq ?_
          refine JC.ret ?_
          refine JQ.thenRet ?_
          refine Done.one (.inl rfl) rfl (RV.tmp (v := .bool false) rfl) (List.nil_sublist _) ?_
          obtain ⟨hb1, hb2, hb3⟩ := pl_bytes e_30 e_31 e_38 e_44
          have hb4 := pl_part_in (E := 11) e_30 e_31 e_38 e_59 (by omega) (by omega)
          have hc1 := pl_write e_13
          exfalso
          first | omega | contradiction | simp_all
      · skip
        refine JC.condF (congrArg Value.bool (decide_eq_false h_67)) ?_
        refine JC.skip ?_
        refine JQ.seq ?_
        refine JC.seq ?_
        refine JC.seq ?_
        refine JC.region ?_
        refine JL.pure rfl (PO.move (v := .int .i64 n_35) rfl) ?_
        refine JL.pure rfl (PO.neqI rfl rfl) ?_
        refine JL.pure rfl (PO.move (v := .bool (!(decide (n_35 = 0)))) rfl) ?_
        by_cases h_73 : n_35 = 0
        · skip
          refine JL.guardOn rfl rfl rfl (congrArg Value.bool (congrArg Bool.not (decide_eq_true h_73))) (JO.ofLO (LO.pure (PO.move (v := .int .i64 n_42) rfl))) ?_
          rintro _ _ ⟨rfl, rfl⟩
          refine JL.guardOn rfl rfl rfl (congrArg Value.bool (congrArg Bool.not (decide_eq_true h_73))) (JO.ofLO (LO.pure (PO.neqI rfl rfl))) ?_
          rintro _ _ ⟨rfl, rfl⟩
          refine JL.pure rfl (PO.pickF (v := .bool (!(decide (n_42 = 0)))) (congrArg Value.bool (congrArg Bool.not (decide_eq_true h_73))) rfl) ?_
          refine JL.pure rfl (PO.move (v := .bool (!(decide (n_42 = 0)))) rfl) ?_
          by_cases h_74 : n_42 = 0
          · skip
            refine JL.guardOn rfl rfl rfl (congrArg Value.bool (congrArg Bool.not (decide_eq_true h_74))) (JO.ofLO (LO.pure (PO.move (v := str u_48) rfl))) ?_
            rintro _ _ ⟨rfl, rfl⟩
            refine JL.guardOn rfl rfl rfl (congrArg Value.bool (congrArg Bool.not (decide_eq_true h_74))) (JO.ofLO (LO.pure (PO.move (v := str [104, 101, 108, 108, 111, 32, 119, 48, 114, 108, 100]) rfl))) ?_
            rintro _ _ ⟨rfl, rfl⟩
            refine JL.guardOn rfl rfl rfl (congrArg Value.bool (congrArg Bool.not (decide_eq_true h_74))) (JO.ofLO (LO.pure (PO.neqS rfl rfl))) ?_
            rintro _ _ ⟨rfl, rfl⟩
            refine JL.pure rfl (PO.pickF (v := .bool (!(decide (u_48 = [104, 101, 108, 108, 111, 32, 119, 48, 114, 108, 100])))) (congrArg Value.bool (congrArg Bool.not (decide_eq_true h_74))) rfl) ?_
            refine JL.pure rfl (PO.move (v := .bool (!(decide (u_48 = [104, 101, 108, 108, 111, 32, 119, 48, 114, 108, 100])))) rfl) ?_
            by_cases h_75 : u_48 = [104, 101, 108, 108, 111, 32, 119, 48, 114, 108, 100]
            · skip
              refine JL.guardOn rfl rfl rfl (congrArg Value.bool (congrArg Bool.not (decide_eq_true h_75))) (JO.ofLO (LO.pure (PO.move (v := str u_63) rfl))) ?_
              rintro _ _ ⟨rfl, rfl⟩
              refine JL.guardOn rfl rfl rfl (congrArg Value.bool (congrArg Bool.not (decide_eq_true h_75))) (JO.ofLO (LO.pure (PO.move (v := str []) rfl))) ?_
              rintro _ _ ⟨rfl, rfl⟩
              refine JL.guardOn rfl rfl rfl (congrArg Value.bool (congrArg Bool.not (decide_eq_true h_75))) (JO.ofLO (LO.pure (PO.neqS rfl rfl))) ?_
              rintro _ _ ⟨rfl, rfl⟩
              refine JL.pure rfl (PO.pickF (v := .bool (!(decide (u_63 = [])))) (congrArg Value.bool (congrArg Bool.not (decide_eq_true h_75))) rfl) ?_
              refine JL.nil ?_
              refine JQ.seq ?_
              by_cases h_76 : u_63 = []
              · skip
                have h_76l : u_63.length = 0 := by rw [h_76]; rfl
                refine JC.condF (congrArg Value.bool (congrArg Bool.not (decide_eq_true h_76))) ?_
                refine JC.skip ?_
                refine JQ.seq ?_
                refine JC.seq ?_
                refine JC.seq ?_
                refine JC.region ?_
                refine JL.pure rfl (PO.move (v := .int .i64 n_17) rfl) ?_
                refine JL.pure rfl (PO.neqI rfl rfl) ?_
                refine JL.nil ?_
                refine JQ.seq ?_
                by_cases h_77 : n_17 = 0
                · skip
                  refine JC.condF (congrArg Value.bool (congrArg Bool.not (decide_eq_true h_77))) ?_
                  refine JC.skip ?_
                  refine JQ.sub (L' := []) (.cons _ (.cons _ (.cons _ (.cons _ (.cons _ (.cons _ (.cons _ (.cons _ (.slnil))))))))) ?_
                  refine JQ.seq ?_
                  refine JC.seq ?_
                  refine JC.region ?_
                  refine JL.pure rfl (PO.assign (v := .bool true) rfl) ?_
                  refine JL.nil ?_
                  refine JQ.seq ?_
                  refine JC.ret ?_
                  refine Done.one (.inl rfl) rfl (RV.tmp (v := .bool true) rfl) (List.nil_sublist _) ?_
                  exact ⟨rfl, rfl⟩
                · skip
                  refine JC.condT (congrArg Value.bool (congrArg Bool.not (decide_eq_false h_77))) ?_
                  refine JC.seq ?_
                  refine JC.region ?_
                  refine JL.pure rfl (PO.fieldAddr fo32_0 rfl) ?_
                  refine JL.ld rfl (LO.load1 0 (v := .slice x_15.a0 m_16.s.length x_15.c0) rfl rfl Tryz.isAgg29 rfl) ?_
                  refine JL.pure rfl (PO.fieldAddr fo32_0 rfl) ?_
                  refine JL.ld rfl (LO.load1 4 (v := .slice x_2.a0 m_3.s.length x_2.c0) rfl rfl Tryz.isAgg29 rfl) ?_
                  refine JL.op rfl (JO.call [] Tryz.call37 rfl (C_sameCells x_15.a0 x_2.a0 x_15.c0 x_2.c0 m_16.s m_3.s (by have hl_ := k_14.1; omega)) rfl (fun w hw => ⟨hw.see (i := 1) rfl, hw.see (i := 5) rfl⟩)) ?_
                  rintro _ _ ⟨_, ⟨rfl, rfl⟩, rfl⟩
                  refine JL.pure rfl (PO.assign (v := .bool (decide (m_16.s = m_3.s))) rfl) ?_
                  refine JL.nil ?_
                  refine JQ.sub (L' := []) (.cons _ (.cons _ (.cons _ (.cons _ (.cons _ (.cons _ (.cons _ (.cons _ (.slnil))))))))) ?_
                  refine JQ.seq ?_
                  refine JC.ret ?_
                  refine JQ.thenRet ?_
                  refine Done.one (.inl rfl) rfl (RV.tmp (v := .bool (decide (m_16.s = m_3.s))) rfl) (List.nil_sublist _) ?_
                  obtain ⟨hb1, hb2, hb3⟩ := pl_bytes e_30 e_31 e_38 e_44
                  have hb4 := pl_part_out e_30 e_31 e_38 e_59 (by omega)
                  have hc1 := pl_write e_13
                  refine ⟨congrArg Value.bool ?_, rfl⟩
                  simp only [decide_eq_true_eq]
                  first | omega | assumption | simp_all
              · skip
                have h_76l := List.length_pos_iff.2 h_76
                refine JC.condT (congrArg Value.bool (congrArg Bool.not (decide_eq_false h_76))) ?_
                refine JC.seq ?_
                refine JC.region ?_
                refine JL.pure rfl (PO.assign (v := .bool false) rfl) ?_
                refine JL.nil ?_
                refine JQ.sub (L' := []) (.cons _ (.cons _ (.cons _ (.cons _ (.cons _ (.cons _ (.cons _ (.cons _ (.slnil))))))))) ?_
                refine JQ.seq ?_
                refine JC.ret ?_
                refine JQ.thenRet ?_
                refine Done.one (.inl rfl) rfl (RV.tmp (v := .bool false) rfl) (List.nil_sublist _) ?_
                obtain ⟨hb1, hb2, hb3⟩ := pl_bytes e_30 e_31 e_38 e_44
                have hb4 := pl_part_out e_30 e_31 e_38 e_59 (by omega)
                have hc1 := pl_write e_13
                exfalso
                first | omega | contradiction | simp_all
            · skip
              refine JL.guardOff (b := true) rfl rfl rfl (congrArg Value.bool (congrArg Bool.not (decide_eq_false h_75))) ?_
              refine JL.guardOff (b := true) rfl rfl rfl (congrArg Value.bool (congrArg Bool.not (decide_eq_false h_75))) ?_
              refine JL.guardOff (b := true) rfl rfl rfl (congrArg Value.bool (congrArg Bool.not (decide_eq_false h_75))) ?_
              refine JL.pure rfl (PO.pickT (v := .bool true) (congrArg Value.bool (congrArg Bool.not (decide_eq_false h_75))) rfl) ?_
              refine JL.nil ?_
              refine JQ.seq ?_
              refine JC.condT (congrArg Value.bool rfl) ?_
              refine JC.seq ?_
              refine JC.region ?_
              refine JL.pure rfl (PO.assign (v := .bool false) rfl) ?_
              refine JL.nil ?_
              refine JQ.sub (L' := []) (.cons _ (.cons _ (.cons _ (.cons _ (.cons _ (.cons _ (.cons _ (.cons _ (.slnil))))))))) ?_
              refine JQ.seq ?_
              refine JC.ret ?_
              refine JQ.thenRet ?_
              refine Done.one (.inl rfl) rfl (RV.tmp (v := .bool false) rfl) (List.nil_sublist _) ?_
              obtain ⟨hb1, hb2, hb3⟩ := pl_bytes e_30 e_31 e_38 e_44
              have hb4 := pl_part_out e_30 e_31 e_38 e_59 (by omega)
              have hc1 := pl_write e_13
              exfalso
              first | omega | contradiction | simp_all
          · skip
            refine JL.guardOff (b := true) rfl rfl rfl (congrArg Value.bool (congrArg Bool.not (decide_eq_false h_74))) ?_
            refine JL.guardOff (b := true) rfl rfl rfl (congrArg Value.bool (congrArg Bool.not (decide_eq_false h_74))) ?_
            refine JL.guardOff (b := true) rfl rfl rfl (congrArg Value.bool (congrArg Bool.not (decide_eq_false h_74))) ?_
            refine JL.pure rfl (PO.pickT (v := .bool true) (congrArg Value.bool (congrArg Bool.not (decide_eq_false h_74))) rfl) ?_
            refine JL.pure rfl (PO.move (v := .bool true) rfl) ?_
            refine JL.guardOff (b := true) rfl rfl rfl (congrArg Value.bool rfl) ?_
            refine JL.guardOff (b := true) rfl rfl rfl (congrArg Value.bool rfl) ?_
            refine JL.guardOff (b := true) rfl rfl rfl (congrArg Value.bool rfl) ?_
            refine JL.pure rfl (PO.pickT (v := .bool true) (congrArg Value.bool rfl) rfl) ?_
            refine JL.nil ?_
            refine JQ.seq ?_
            refine JC.condT (congrArg Value.bool rfl) ?_
            refine JC.seq ?_
            refine JC.region ?_
            refine JL.pure rfl (PO.assign (v := .bool false) rfl) ?_
            refine JL.nil ?_
            refine JQ.sub (L' := []) (.cons _ (.cons _ (.cons _ (.cons _ (.cons _ (.cons _ (.cons _ (.cons _ (.slnil))))))))) ?_
            refine JQ.seq ?_
            refine JC.ret ?_
            refine JQ.thenRet ?_
            refine Done.one (.inl rfl) rfl (RV.tmp (v := .bool false) rfl) (List.nil_sublist _) ?_
            obtain ⟨hb1, hb2, hb3⟩ := pl_bytes e_30 e_31 e_38 e_44
            have hb4 := pl_part_out e_30 e_31 e_38 e_59 (by omega)
            have hc1 := pl_write e_13
            exfalso
            first | omega | contradiction | simp_all
        · skip
          refine JL.guardOff (b := true) rfl rfl rfl (congrArg Value.bool (congrArg Bool.not (decide_eq_false h_73))) ?_
          refine JL.guardOff (b := true) rfl rfl rfl (congrArg Value.bool (congrArg Bool.not (decide_eq_false h_73))) ?_
          refine JL.pure rfl (PO.pickT (v := .bool true) (congrArg Value.bool (congrArg Bool.not (decide_eq_false h_73))) rfl) ?_
          refine JL.pure rfl (PO.move (v := .bool true) rfl) ?_
          refine JL.guardOff (b := true) rfl rfl rfl (congrArg Value.bool rfl) ?_
          refine JL.guardOff (b := true) rfl rfl rfl (congrArg Value.bool rfl) ?_
          refine JL.guardOff (b := true) rfl rfl rfl (congrArg Value.bool rfl) ?_
          refine JL.pure rfl (PO.pickT (v := .bool true) (congrArg Value.bool rfl) rfl) ?_
          refine JL.pure rfl (PO.move (v := .bool true) rfl) ?_
          refine JL.guardOff (b := true) rfl rfl rfl (congrArg Value.bool rfl) ?_
          refine JL.guardOff (b := true) rfl rfl rfl (congrArg Value.bool rfl) ?_
          refine JL.guardOff (b := true) rfl rfl rfl (congrArg Value.bool rfl) ?_
          refine JL.pure rfl (PO.pickT (v := .bool true) (congrArg Value.bool rfl) rfl) ?_
          refine JL.nil ?_
          refine JQ.seq ?_
          refine JC.condT (congrArg Value.bool rfl) ?_
          refine JC.seq ?_
          refine JC.region ?_
          refine JL.pure rfl (PO.assign (v := .bool false) rfl) ?_
          refine JL.nil ?_
          refine JQ.sub (L' := []) (.cons _ (.cons _ (.cons _ (.cons _ (.cons _ (.cons _ (.cons _ (.cons _ (.slnil))))))))) ?_
          refine JQ.seq ?_
          refine JC.ret ?_
          refine JQ.thenRet ?_
          refine Done.one (.inl rfl) rfl (RV.tmp (v := .bool false) rfl) (List.nil_sublist _) ?_
          obtain ⟨hb1, hb2, hb3⟩ := pl_bytes e_30 e_31 e_38 e_44
          have hb4 := pl_part_out e_30 e_31 e_38 e_59 (by omega)
          have hc1 := pl_write e_13
          exfalso
          first | omega | contradiction | simp_all
    · skip
      refine JC.condF (congrArg Value.bool (decide_eq_false h_66)) ?_
      refine JC.skip ?_
      refine JQ.seq ?_
      refine JC.seq ?_
      refine JC.region ?_
      refine JL.pure rfl (PO.assign (v := str [104, 101, 108, 108, 111, 32, 119, 48, 114, 108, 100]) rfl) ?_
      refine JL.nil ?_
      refine JQ.seq ?_
      refine JC.seq ?_
      refine JC.region ?_
      refine JL.pure rfl (PO.assign (v := str []) rfl) ?_
      refine JL.nil ?_
      refine JQ.seq ?_
      refine JC.seq ?_
      refine JC.seq ?_
      refine JC.region ?_
      refine JL.pure rfl (PO.move (v := .int .i64 ((kk_55 % 12 : Nat) : Int)) rfl) ?_
      refine JL.pure rfl (PO.lss rfl rfl) ?_
      refine JL.nil ?_
      refine JQ.seq ?_
      by_cases h_78 : ((kk_55 % 12 : Nat) : Int) < 11
      · skip
        refine JC.condT (congrArg Value.bool (decide_eq_true h_78)) ?_
        refine JC.region ?_
        refine JL.pure rfl (PO.move (v := str [104, 101, 108, 108, 111, 32, 119, 48, 114, 108, 100]) rfl) ?_
        refine JL.pure rfl (PO.move (v := .int .i64 ((kk_55 % 12 : Nat) : Int)) rfl) ?_
        refine JL.pure rfl (PO.move (v := .int .i64 (((kk_55 % 12) + (1 + (kk_57 % 12)) : Nat) : Int)) rfl) ?_
        refine JL.pure rfl (PO.sliceS (i := (kk_55 % 12)) (j := ((kk_55 % 12) + (1 + (kk_57 % 12)))) Tryz.underlying9 rfl rfl rfl (by omega) (by simp only [List.length_cons, List.length_nil]; omega)) ?_
        refine JL.pure rfl (PO.assign (v := str ((([104, 101, 108, 108, 111, 32, 119, 48, 114, 108, 100] : Str).drop (kk_55 % 12)).take (((kk_55 % 12) + (1 + (kk_57 % 12))) - (kk_55 % 12)))) rfl) ?_
        refine JL.nil ?_
        refine JQ.seq ?_
        refine JC.seq ?_
        refine JC.seq ?_
        refine JC.region ?_
        refine JL.pure rfl (PO.move (v := .int .i64 n_35) rfl) ?_
        refine JL.pure rfl (PO.neqI rfl rfl) ?_
        refine JL.pure rfl (PO.move (v := .bool (!(decide (n_35 = 0)))) rfl) ?_
        by_cases h_79 : n_35 = 0
        · skip
          refine JL.guardOn rfl rfl rfl (congrArg Value.bool (congrArg Bool.not (decide_eq_true h_79))) (JO.ofLO (LO.pure (PO.move (v := .int .i64 n_42) rfl))) ?_
          rintro _ _ ⟨rfl, rfl⟩
          refine JL.guardOn rfl rfl rfl (congrArg Value.bool (congrArg Bool.not (decide_eq_true h_79))) (JO.ofLO (LO.pure (PO.neqI rfl rfl))) ?_
          rintro _ _ ⟨rfl, rfl⟩
          refine JL.pure rfl (PO.pickF (v := .bool (!(decide (n_42 = 0)))) (congrArg Value.bool (congrArg Bool.not (decide_eq_true h_79))) rfl) ?_
          refine JL.pure rfl (PO.move (v := .bool (!(decide (n_42 = 0)))) rfl) ?_
          by_cases h_80 : n_42 = 0
          · skip
            refine JL.guardOn rfl rfl rfl (congrArg Value.bool (congrArg Bool.not (decide_eq_true h_80))) (JO.ofLO (LO.pure (PO.move (v := str u_48) rfl))) ?_
            rintro _ _ ⟨rfl, rfl⟩
            refine JL.guardOn rfl rfl rfl (congrArg Value.bool (congrArg Bool.not (decide_eq_true h_80))) (JO.ofLO (LO.pure (PO.move (v := str [104, 101, 108, 108, 111, 32, 119, 48, 114, 108, 100]) rfl))) ?_
            rintro _ _ ⟨rfl, rfl⟩
            refine JL.guardOn rfl rfl rfl (congrArg Value.bool (congrArg Bool.not (decide_eq_true h_80))) (JO.ofLO (LO.pure (PO.neqS rfl rfl))) ?_
            rintro _ _ ⟨rfl, rfl⟩
            refine JL.pure rfl (PO.pickF (v := .bool (!(decide (u_48 = [104, 101, 108, 108, 111, 32, 119, 48, 114, 108, 100])))) (congrArg Value.bool (congrArg Bool.not (decide_eq_true h_80))) rfl) ?_
            refine JL.pure rfl (PO.move (v := .bool (!(decide (u_48 = [104, 101, 108, 108, 111, 32, 119, 48, 114, 108, 100])))) rfl) ?_
            by_cases h_81 : u_48 = [104, 101, 108, 108, 111, 32, 119, 48, 114, 108, 100]
            · skip
              refine JL.guardOn rfl rfl rfl (congrArg Value.bool (congrArg Bool.not (decide_eq_true h_81))) (JO.ofLO (LO.pure (PO.move (v := str u_63) rfl))) ?_
              rintro _ _ ⟨rfl, rfl⟩
              refine JL.guardOn rfl rfl rfl (congrArg Value.bool (congrArg Bool.not (decide_eq_true h_81))) (JO.ofLO (LO.pure (PO.move (v := str ((([104, 101, 108, 108, 111, 32, 119, 48, 114, 108, 100] : Str).drop (kk_55 % 12)).take (((kk_55 % 12) + (1 + (kk_57 % 12))) - (kk_55 % 12)))) rfl))) ?_
              rintro _ _ ⟨rfl, rfl⟩
              refine JL.guardOn rfl rfl rfl (congrArg Value.bool (congrArg Bool.not (decide_eq_true h_81))) (JO.ofLO (LO.pure (PO.neqS rfl rfl))) ?_
              rintro _ _ ⟨rfl, rfl⟩
              refine JL.pure rfl (PO.pickF (v := .bool (!(decide (u_63 = ((([104, 101, 108, 108, 111, 32, 119, 48, 114, 108, 100] : Str).drop (kk_55 % 12)).take (((kk_55 % 12) + (1 + (kk_57 % 12))) - (kk_55 % 12))))))) (congrArg Value.bool (congrArg Bool.not (decide_eq_true h_81))) rfl) ?_
              refine JL.nil ?_
              refine JQ.seq ?_
              by_cases h_82 : u_63 = ((([104, 101, 108, 108, 111, 32, 119, 48, 114, 108, 100] : Str).drop (kk_55 % 12)).take (((kk_55 % 12) + (1 + (kk_57 % 12))) - (kk_55 % 12)))
              · skip
                refine JC.condF (congrArg Value.bool (congrArg Bool.not (decide_eq_true h_82))) ?_
                refine JC.skip ?_
                refine JQ.seq ?_
                refine JC.seq ?_
                refine JC.seq ?_
                refine JC.region ?_
                refine JL.pure rfl (PO.move (v := .int .i64 n_17) rfl) ?_
                refine JL.pure rfl (PO.neqI rfl rfl) ?_
                refine JL.nil ?_
                refine JQ.seq ?_
                by_cases h_83 : n_17 = 0
                · skip
                  refine JC.condF (congrArg Value.bool (congrArg Bool.not (decide_eq_true h_83))) ?_
                  refine JC.skip ?_
                  refine JQ.sub (L' := []) (.cons _ (.cons _ (.cons _ (.cons _ (.cons _ (.cons _ (.cons _ (.cons _ (.slnil))))))))) ?_
                  refine JQ.seq ?_
                  refine JC.seq ?_
                  refine JC.region ?_
                  refine JL.pure rfl (PO.assign (v := .bool true) rfl) ?_
                  refine JL.nil ?_
                  refine JQ.seq ?_
                  refine JC.ret ?_
                  refine Done.one (.inl rfl) rfl (RV.tmp (v := .bool true) rfl) (List.nil_sublist _) ?_
                  exact ⟨rfl, rfl⟩
                · skip
                  refine JC.condT (congrArg Value.bool (congrArg Bool.not (decide_eq_false h_83))) ?_
                  refine JC.seq ?_
                  refine JC.region ?_
                  refine JL.pure rfl (PO.fieldAddr fo32_0 rfl) ?_
                  refine JL.ld rfl (LO.load1 0 (v := .slice x_15.a0 m_16.s.length x_15.c0) rfl rfl Tryz.isAgg29 rfl) ?_
                  refine JL.pure rfl (PO.fieldAddr fo32_0 rfl) ?_
                  refine JL.ld rfl (LO.load1 4 (v := .slice x_2.a0 m_3.s.length x_2.c0) rfl rfl Tryz.isAgg29 rfl) ?_
                  refine JL.op rfl (JO.call [] Tryz.call37 rfl (C_sameCells x_15.a0 x_2.a0 x_15.c0 x_2.c0 m_16.s m_3.s (by have hl_ := k_14.1; omega)) rfl (fun w hw => ⟨hw.see (i := 1) rfl, hw.see (i := 5) rfl⟩)) ?_
                  rintro _ _ ⟨_, ⟨rfl, rfl⟩, rfl⟩
                  refine JL.pure rfl (PO.assign (v := .bool (decide (m_16.s = m_3.s))) rfl) ?_
                  refine JL.nil ?_
                  refine JQ.sub (L' := []) (.cons _ (.cons _ (.cons _ (.cons _ (.cons _ (.cons _ (.cons _ (.cons _ (.slnil))))))))) ?_
                  refine JQ.seq ?_
                  refine JC.ret ?_
                  refine JQ.thenRet ?_
                  refine Done.one (.inl rfl) rfl (RV.tmp (v := .bool (decide (m_16.s = m_3.s))) rfl) (List.nil_sublist _) ?_
                  obtain ⟨hb1, hb2, hb3⟩ := pl_bytes e_30 e_31 e_38 e_44
                  have hb4 := pl_part_in (E := (kk_55 % 12) + (1 + (kk_57 % 12))) e_30 e_31 e_38 e_59 (by omega) (by omega)
                  have hc1 := pl_write e_13
                  refine ⟨congrArg Value.bool ?_, rfl⟩
                  simp only [decide_eq_true_eq]
                  first | omega | assumption | simp_all
              · skip
                refine JC.condT (congrArg Value.bool (congrArg Bool.not (decide_eq_false h_82))) ?_
                refine JC.seq ?_
                refine JC.region ?_
                refine JL.pure rfl (PO.assign (v := .bool false) rfl) ?_
                refine JL.nil ?_
                refine JQ.sub (L' := []) (.cons _ (.cons _ (.cons _ (.cons _ (.cons _ (.cons _ (.cons _ (.cons _ (.slnil))))))))) ?_
                refine JQ.seq ?_
                refine JC.ret ?_
                refine JQ.thenRet ?_
                refine Done.one (.inl rfl) rfl (RV.tmp (v := .bool false) rfl) (List.nil_sublist _) ?_
                obtain ⟨hb1, hb2, hb3⟩ := pl_bytes e_30 e_31 e_38 e_44
                have hb4 := pl_part_in (E := (kk_55 % 12) + (1 + (kk_57 % 12))) e_30 e_31 e_38 e_59 (by omega) (by omega)
                have hc1 := pl_write e_13
                exfalso
                first | omega | contradiction | simp_all
            · skip
              refine JL.guardOff (b := true) rfl rfl rfl (congrArg Value.bool (congrArg Bool.not (decide_eq_false h_81))) ?_
              refine JL.guardOff (b := true) rfl rfl rfl (congrArg Value.bool (congrArg Bool.not (decide_eq_false h_81))) ?_
              refine JL.guardOff (b := true) rfl rfl rfl (congrArg Value.bool (congrArg Bool.not (decide_eq_false h_81))) ?_
              refine JL.pure rfl (PO.pickT (v := .bool true) (congrArg Value.bool (congrArg Bool.not (decide_eq_false h_81))) rfl) ?_
              refine JL.nil ?_
              refine JQ.seq ?_
              refine JC.condT (congrArg Value.bool rfl) ?_
              refine JC.seq ?_
              refine JC.region ?_
              refine JL.pure rfl (PO.assign (v := .bool false) rfl) ?_
              refine JL.nil ?_
              refine JQ.sub (L' := []) (.cons _ (.cons _ (.cons _ (.cons _ (.cons _ (.cons _ (.cons _ (.cons _ (.slnil))))))))) ?_
              refine JQ.seq ?_
              refine JC.ret ?_
              refine JQ.thenRet ?_
              refine Done.one (.inl rfl) rfl (RV.tmp (v := .bool false) rfl) (List.nil_sublist _) ?_
              obtain ⟨hb1, hb2, hb3⟩ := pl_bytes e_30 e_31 e_38 e_44
              have hb4 := pl_part_in (E := (kk_55 % 12) + (1 + (kk_57 % 12))) e_30 e_31 e_38 e_59 (by omega) (by omega)
              have hc1 := pl_write e_13
              exfalso
              first | omega | contradiction | simp_all
          · skip
            refine JL.guardOff (b := true) rfl rfl rfl (congrArg Value.bool (congrArg Bool.not (decide_eq_false h_80))) ?_
            refine JL.guardOff (b := true) rfl rfl rfl (congrArg Value.bool (congrArg Bool.not (decide_eq_false h_80))) ?_
            refine JL.guardOff (b := true) rfl rfl rfl (congrArg Value.bool (congrArg Bool.not (decide_eq_false h_80))) ?_
            refine JL.pure rfl (PO.pickT (v := .bool true) (congrArg Value.bool (congrArg Bool.not (decide_eq_false h_80))) rfl) ?_
            refine JL.pure rfl (PO.move (v := .bool true) rfl) ?_
            refine JL.guardOff (b := true) rfl rfl rfl (congrArg Value.bool rfl) ?_
            refine JL.guardOff (b := true) rfl rfl rfl (congrArg Value.bool rfl) ?_
            refine JL.guardOff (b := true) rfl rfl rfl (congrArg Value.bool rfl) ?_
            refine JL.pure rfl (PO.pickT (v := .bool true) (congrArg Value.bool rfl) rfl) ?_
            refine JL.nil ?_
            refine JQ.seq ?_
            refine JC.condT (congrArg Value.bool rfl) ?_
            refine JC.seq ?_
            refine JC.region ?_
            refine JL.pure rfl (PO.assign (v := .bool false) rfl) ?_
            refine JL.nil ?_
            refine JQ.sub (L' := []) (.cons _ (.cons _ (.cons _ (.cons _ (.cons _ (.cons _ (.cons _ (.cons _ (.slnil))))))))) ?_
            refine JQ.seq ?_
            refine JC.ret ?_
            refine JQ.thenRet ?_
            refine Done.one (.inl rfl) rfl (RV.tmp (v := .bool false) rfl) (List.nil_sublist _) ?_
            obtain ⟨hb1, hb2, hb3⟩ := pl_bytes e_30 e_31 e_38 e_44
            have hb4 := pl_part_in (E := (kk_55 % 12) + (1 + (kk_57 % 12))) e_30 e_31 e_38 e_59 (by omega) (by omega)
            have hc1 := pl_write e_13
            exfalso
            first | omega | contradiction | simp_all
        · skip
          refine JL.guardOff (b := true) rfl rfl rfl (congrArg Value.bool (congrArg Bool.not (decide_eq_false h_79))) ?_
          refine JL.guardOff (b := true) rfl rfl rfl (congrArg Value.bool (congrArg Bool.not (decide_eq_false h_79))) ?_
          refine JL.pure rfl (PO.pickT (v := .bool true) (congrArg Value.bool (congrArg Bool.not (decide_eq_false h_79))) rfl) ?_
          refine JL.pure rfl (PO.move (v := .bool true) rfl) ?_
          refine JL.guardOff (b := true) rfl rfl rfl (congrArg Value.bool rfl) ?_
          refine JL.guardOff (b := true) rfl rfl rfl (congrArg Value.bool rfl) ?_
          refine JL.guardOff (b := true) rfl rfl rfl (congrArg Value.bool rfl) ?_
          refine JL.pure rfl (PO.pickT (v := .bool true) (congrArg Value.bool rfl) rfl) ?_
          refine JL.pure rfl (PO.move (v := .bool true) rfl) ?_
          refine JL.guardOff (b := true) rfl rfl rfl (congrArg Value.bool rfl) ?_
          refine JL.guardOff (b := true) rfl rfl rfl (congrArg Value.bool rfl) ?_
          refine JL.guardOff (b := true) rfl rfl rfl (congrArg Value.bool rfl) ?_
          refine JL.pure rfl (PO.pickT (v := .bool true) (congrArg Value.bool rfl) rfl) ?_
          refine JL.nil ?_
          refine JQ.seq ?_
          refine JC.condT (congrArg Value.bool rfl) ?_
          refine JC.seq ?_
          refine JC.region ?_
          refine JL.pure rfl (PO.assign (v := .bool false) rfl) ?_
          refine JL.nil ?_
          refine JQ.sub (L' := []) (.cons _ (.cons _ (.cons _ (.cons _ (.cons _ (.cons _ (.cons _ (.cons _ (.slnil))))))))) ?_
          refine JQ.seq ?_
          refine JC.ret ?_
          refine JQ.thenRet ?_
          refine Done.one (.inl rfl) rfl (RV.tmp (v := .bool false) rfl) (List.nil_sublist _) ?_
          obtain ⟨hb1, hb2, hb3⟩ := pl_bytes e_30 e_31 e_38 e_44
          have hb4 := pl_part_in (E := (kk_55 % 12) + (1 + (kk_57 % 12))) e_30 e_31 e_38 e_59 (by omega) (by omega)
          have hc1 := pl_write e_13
          exfalso
          first | omega | contradiction | simp_all
      · skip
        refine JC.condF (congrArg Value.bool (decide_eq_false h_78)) ?_
        refine JC.skip ?_
        refine JQ.seq ?_
        refine JC.seq ?_
        refine JC.seq ?_
        refine JC.region ?_
        refine JL.pure rfl (PO.move (v := .int .i64 n_35) rfl) ?_
        refine JL.pure rfl (PO.neqI rfl rfl) ?_
        refine JL.pure rfl (PO.move (v := .bool (!(decide (n_35 = 0)))) rfl) ?_
        by_cases h_84 : n_35 = 0
        · skip
          refine JL.guardOn rfl rfl rfl (congrArg Value.bool (congrArg Bool.not (decide_eq_true h_84))) (JO.ofLO (LO.pure (PO.move (v := .int .i64 n_42) rfl))) ?_
          rintro _ _ ⟨rfl, rfl⟩
          refine JL.guardOn rfl rfl rfl (congrArg Value.bool (congrArg Bool.not (decide_eq_true h_84))) (JO.ofLO (LO.pure (PO.neqI rfl rfl))) ?_
          rintro _ _ ⟨rfl, rfl⟩
          refine JL.pure rfl (PO.pickF (v := .bool (!(decide (n_42 = 0)))) (congrArg Value.bool (congrArg Bool.not (decide_eq_true h_84))) rfl) ?_
          refine JL.pure rfl (PO.move (v := .bool (!(decide (n_42 = 0)))) rfl) ?_
          by_cases h_85 : n_42 = 0
          · skip
            refine JL.guardOn rfl rfl rfl (congrArg Value.bool (congrArg Bool.not (decide_eq_true h_85))) (JO.ofLO (LO.pure (PO.move (v := str u_48) rfl))) ?_
            rintro _ _ ⟨rfl, rfl⟩
            refine JL.guardOn rfl rfl rfl (congrArg Value.bool (congrArg Bool.not (decide_eq_true h_85))) (JO.ofLO (LO.pure (PO.move (v := str [104, 101, 108, 108, 111, 32, 119, 48, 114, 108, 100]) rfl))) ?_
            rintro _ _ ⟨rfl, rfl⟩
            refine JL.guardOn rfl rfl rfl (congrArg Value.bool (congrArg Bool.not (decide_eq_true h_85))) (JO.ofLO (LO.pure (PO.neqS rfl rfl))) ?_
            rintro _ _ ⟨rfl, rfl⟩
            refine JL.pure rfl (PO.pickF (v := .bool (!(decide (u_48 = [104, 101, 108, 108, 111, 32, 119, 48, 114, 108, 100])))) (congrArg Value.bool (congrArg Bool.not (decide_eq_true h_85))) rfl) ?_
            refine JL.pure rfl (PO.move (v := .bool (!(decide (u_48 = [104, 101, 108, 108, 111, 32, 119, 48, 114, 108, 100])))) rfl) ?_
            by_cases h_86 : u_48 = [104, 101, 108, 108, 111, 32, 119, 48, 114, 108, 100]
            · skip
              refine JL.guardOn rfl rfl rfl (congrArg Value.bool (congrArg Bool.not (decide_eq_true h_86))) (JO.ofLO (LO.pure (PO.move (v := str u_63) rfl))) ?_
              rintro _ _ ⟨rfl, rfl⟩
              refine JL.guardOn rfl rfl rfl (congrArg Value.bool (congrArg Bool.not (decide_eq_true h_86))) (JO.ofLO (LO.pure (PO.move (v := str []) rfl))) ?_
              rintro _ _ ⟨rfl, rfl⟩
              refine JL.guardOn rfl rfl rfl (congrArg Value.bool (congrArg Bool.not (decide_eq_true h_86))) (JO.ofLO (LO.pure (PO.neqS rfl rfl))) ?_
              rintro _ _ ⟨rfl, rfl⟩
              refine JL.pure rfl (PO.pickF (v := .bool (!(decide (u_63 = [])))) (congrArg Value.bool (congrArg Bool.not (decide_eq_true h_86))) rfl) ?_
              refine JL.nil ?_
              refine JQ.seq ?_
              by_cases h_87 : u_63 = []
              · skip
                have h_87l : u_63.length = 0 := by rw [h_87]; rfl
                refine JC.condF (congrArg Value.bool (congrArg Bool.not (decide_eq_true h_87))) ?_
                refine JC.skip ?_
                refine JQ.seq ?_
                refine JC.seq ?_
                refine JC.seq ?_
                refine JC.region ?_
                refine JL.pure rfl (PO.move (v := .int .i64 n_17) rfl) ?_
                refine JL.pure rfl (PO.neqI rfl rfl) ?_
                refine JL.nil ?_
                refine JQ.seq ?_
                by_cases h_88 : n_17 = 0
                · skip
                  refine JC.condF (congrArg Value.bool (congrArg Bool.not (decide_eq_true h_88))) ?_
                  refine JC.skip ?_
                  refine JQ.sub (L' := []) (.cons _ (.cons _ (.cons _ (.cons _ (.cons _ (.cons _ (.cons _ (.cons _ (.slnil))))))))) ?_
                  refine JQ.seq ?_
                  refine JC.seq ?_
                  refine JC.region ?_
                  refine JL.pure rfl (PO.assign (v := .bool true) rfl) ?_
                  refine JL.nil ?_
                  refine JQ.seq ?_
                  refine JC.ret ?_
                  refine Done.one (.inl rfl) rfl (RV.tmp (v := .bool true) rfl) (List.nil_sublist _) ?_
                  exact ⟨rfl, rfl⟩
                · skip
                  refine JC.condT (congrArg Value.bool (congrArg Bool.not (decide_eq_false h_88))) ?_
                  refine JC.seq ?_
                  refine JC.region ?_
                  refine JL.pure rfl (PO.fieldAddr fo32_0 rfl) ?_
                  refine JL.ld rfl (LO.load1 0 (v := .slice x_15.a0 m_16.s.length x_15.c0) rfl rfl Tryz.isAgg29 rfl) ?_
                  refine JL.pure rfl (PO.fieldAddr fo32_0 rfl) ?_
                  refine JL.ld rfl (LO.load1 4 (v := .slice x_2.a0 m_3.s.length x_2.c0) rfl rfl Tryz.isAgg29 rfl) ?_
                  refine JL.op rfl (JO.call [] Tryz.call37 rfl (C_sameCells x_15.a0 x_2.a0 x_15.c0 x_2.c0 m_16.s m_3.s (by have hl_ := k_14.1; omega)) rfl (fun w hw => ⟨hw.see (i := 1) rfl, hw.see (i := 5) rfl⟩)) ?_
                  rintro _ _ ⟨_, ⟨rfl, rfl⟩, rfl⟩
                  refine JL.pure rfl (PO.assign (v := .bool (decide (m_16.s = m_3.s))) rfl) ?_
                  refine JL.nil ?_
                  refine JQ.sub (L' := []) (.cons _ (.cons _ (.cons _ (.cons _ (.cons _ (.cons _ (.cons _ (.cons _ (.slnil))))))))) ?_
                  refine JQ.seq ?_
                  refine JC.ret ?_
                  refine JQ.thenRet ?_
                  refine Done.one (.inl rfl) rfl (RV.tmp (v := .bool (decide (m_16.s = m_3.s))) rfl) (List.nil_sublist _) ?_
                  obtain ⟨hb1, hb2, hb3⟩ := pl_bytes e_30 e_31 e_38 e_44
                  have hb4 := pl_part_out e_30 e_31 e_38 e_59 (by omega)
                  have hc1 := pl_write e_13
                  refine ⟨congrArg Value.bool ?_, rfl⟩
                  simp only [decide_eq_true_eq]
                  first | omega | assumption | simp_all
              · skip
                have h_87l := List.length_pos_iff.2 h_87
                refine JC.condT (congrArg Value.bool (congrArg Bool.not (decide_eq_false h_87))) ?_
                refine JC.seq ?_
                refine JC.region ?_
                refine JL.pure rfl (PO.assign (v := .bool false) rfl) ?_
                refine JL.nil ?_
                refine JQ.sub (L' := []) (.cons _ (.cons _ (.cons _ (.cons _ (.cons _ (.cons _ (.cons _ (.cons _ (.slnil))))))))) ?_
                refine JQ.seq ?_
                refine JC.ret ?_
                refine JQ.thenRet ?_
                refine Done.one (.inl rfl) rfl (RV.tmp (v := .bool false) rfl) (List.nil_sublist _) ?_
                obtain ⟨hb1, hb2, hb3⟩ := pl_bytes e_30 e_31 e_38 e_44
                have hb4 := pl_part_out e_30 e_31 e_38 e_59 (by omega)
                have hc1 := pl_write e_13
                exfalso
                first | omega | contradiction | simp_all
            · skip
              refine JL.guardOff (b := true) rfl rfl rfl (congrArg Value.bool (congrArg Bool.not (decide_eq_false h_86))) ?_
              refine JL.guardOff (b := true) rfl rfl rfl (congrArg Value.bool (congrArg Bool.not (decide_eq_false h_86))) ?_
              refine JL.guardOff (b := true) rfl rfl rfl (congrArg Value.bool (congrArg Bool.not (decide_eq_false h_86))) ?_
              refine JL.pure rfl (PO.pickT (v := .bool true) (congrArg Value.bool (congrArg Bool.not (decide_eq_false h_86))) rfl) ?_
              refine JL.nil ?_
              refine JQ.seq ?_
              refine JC.condT (congrArg Value.bool rfl) ?_
              refine JC.seq ?_
              refine JC.region ?_
              refine JL.pure rfl (PO.assign (v := .bool false) rfl) ?_
              refine JL.nil ?_
              refine JQ.sub (L' := []) (.cons _ (.cons _ (.cons _ (.cons _ (.cons _ (.cons _ (.cons _ (.cons _ (.slnil))))))))) ?_
              refine JQ.seq ?_
              refine JC.ret ?_
              refine JQ.thenRet ?_
              refine Done.one (.inl rfl) rfl (RV.tmp (v := .bool false) rfl) (List.nil_sublist _) ?_
              obtain ⟨hb1, hb2, hb3⟩ := pl_bytes e_30 e_31 e_38 e_44
              have hb4 := pl_part_out e_30 e_31 e_38 e_59 (by omega)
              have hc1 := pl_write e_13
              exfalso
              first | omega | contradiction | simp_all
          · skip
            refine JL.guardOff (b := true) rfl rfl rfl (congrArg Value.bool (congrArg Bool.not (decide_eq_false h_85))) ?_
            refine JL.guardOff (b := true) rfl rfl rfl (congrArg Value.bool (congrArg Bool.not (decide_eq_false h_85))) ?_
            refine JL.guardOff (b := true) rfl rfl rfl (congrArg Value.bool (congrArg Bool.not (decide_eq_false h_85))) ?_
            refine JL.pure rfl (PO.pickT (v := .bool true) (congrArg Value.bool (congrArg Bool.not (decide_eq_false h_85))) rfl) ?_
            refine JL.pure rfl (PO.move (v := .bool true) rfl) ?_
            refine JL.guardOff (b := true) rfl rfl rfl (congrArg Value.bool rfl) ?_
            refine JL.guardOff (b := true) rfl rfl rfl (congrArg Value.bool rfl) ?_
            refine JL.guardOff (b := true) rfl rfl rfl (congrArg Value.bool rfl) ?_
            refine JL.pure rfl (PO.pickT (v := .bool true) (congrArg Value.bool rfl) rfl) ?_
            refine JL.nil ?_
            refine JQ.seq ?_
            refine JC.condT (congrArg Value.bool rfl) ?_
            refine JC.seq ?_
            refine JC.region ?_
            refine JL.pure rfl (PO.assign (v := .bool false) rfl) ?_
            refine JL.nil ?_
            refine JQ.sub (L' := []) (.cons _ (.cons _ (.cons _ (.cons _ (.cons _ (.cons _ (.cons _ (.cons _ (.slnil))))))))) ?_
            refine JQ.seq ?_
            refine JC.ret ?_
            refine JQ.thenRet ?_
            refine Done.one (.inl rfl) rfl (RV.tmp (v := .bool false) rfl) (List.nil_sublist _) ?_
            obtain ⟨hb1, hb2, hb3⟩ := pl_bytes e_30 e_31 e_38 e_44
            have hb4 := pl_part_out e_30 e_31 e_38 e_59 (by omega)
            have hc1 := pl_write e_13
            exfalso
            first | omega | contradiction | simp_all
        · skip
          refine JL.guardOff (b := true) rfl rfl rfl (congrArg Value.bool (congrArg Bool.not (decide_eq_false h_84))) ?_
          refine JL.guardOff (b := true) rfl rfl rfl (congrArg Value.bool (congrArg Bool.not (decide_eq_false h_84))) ?_
          refine JL.pure rfl (PO.pickT (v := .bool true) (congrArg Value.bool (congrArg Bool.not (decide_eq_false h_84))) rfl) ?_
          refine JL.pure rfl (PO.move (v := .bool true) rfl) ?_
          refine JL.guardOff (b := true) rfl rfl rfl (congrArg Value.bool rfl) ?_
          refine JL.guardOff (b := true) rfl rfl rfl (congrArg Value.bool rfl) ?_
          refine JL.guardOff (b := true) rfl rfl rfl (congrArg Value.bool rfl) ?_
          refine JL.pure rfl (PO.pickT (v := .bool true) (congrArg Value.bool rfl) rfl) ?_
          refine JL.pure rfl (PO.move (v := .bool true) rfl) ?_
          refine JL.guardOff (b := true) rfl rfl rfl (congrArg Value.bool rfl) ?_
          refine JL.guardOff (b := true) rfl rfl rfl (congrArg Value.bool rfl) ?_
          refine JL.guardOff (b := true) rfl rfl rfl (congrArg Value.bool rfl) ?_
          refine JL.pure rfl (PO.pickT (v := .bool true) (congrArg Value.bool rfl) rfl) ?_
          refine JL.nil ?_
          refine JQ.seq ?_
          refine JC.condT (congrArg Value.bool rfl) ?_
          refine JC.seq ?_
          refine JC.region ?_
          refine JL.pure rfl (PO.assign (v := .bool false) rfl) ?_
          refine JL.nil ?_
          refine JQ.sub (L' := []) (.cons _ (.cons _ (.cons _ (.cons _ (.cons _ (.cons _ (.cons _ (.cons _ (.slnil))))))))) ?_
          refine JQ.seq ?_
          refine JC.ret ?_
          refine JQ.thenRet ?_
          refine Done.one (.inl rfl) rfl (RV.tmp (v := .bool false) rfl) (List.nil_sublist _) ?_
          obtain ⟨hb1, hb2, hb3⟩ := pl_bytes e_30 e_31 e_38 e_44
          have hb4 := pl_part_out e_30 e_31 e_38 e_59 (by omega)
          have hc1 := pl_write e_13
          exfalso
          first | omega | contradiction | simp_all

end Go.Proofs.YtenfajgpdhgknaaGreatDoor
