/-
  Drawing machines with names, files, pipes, processes, signals, output (part 26).
-/
import Derived.Test.YtenfajgpdhgknaaGreatDoorS26DRAWNp1
set_option linter.unusedSimpArgs false
set_option linter.unusedVariables false
set_option linter.unnecessarySimpa false
namespace Go.Proofs.YtenfajgpdhgknaaGreatDoor
open Go Go.RowKit
attribute [local irreducible] JL JC JQ JO LO PO JA JX Ct

theorem D_mach09 (qb : Nat) (qa : Option Addr) (qc : Nat) (ql : Str) (qp : Nat) (qs : Int) (hql : ql.length ≤ 1048576) (hqp : qp ≤ ql.length)  :
    Ct Tryz.prog 178 [.pointer (some ⟨qb, 0, none⟩)] [cb qb qa qc ql qp qs] (fun w => seesC w qa qc ql [cb qb qa qc ql qp qs]) (fun v A' => ∃ qp' qs' r0x r0, qp' ≤ ql.length ∧ r0.ok (25) (400) ∧ v = mv r0x r0 ∧ A' = cb qb qa qc ql qp' qs' :: mr r0x r0) := by
  refine Ct.intro Tryz.func178 rfl Tryz.ntmps178 (Nat.le_of_ble_eq_true rfl) fun w0 hpre => ?_
  have hs_qa : Sees w0 _ _ _ _ := hpre.1
  refine JC.seq ?_
  refine JC.region ?_
  refine JL.op rfl (JO.alloc (z := .agg #[.slice none 0 0, .slice none 0 0, .slice none 0 0]) (cs := [.slice none 0 0, .slice none 0 0, .slice none 0 0]) Tryz.zeroValue32 rfl) ?_
  rintro _ _ ⟨b_1, rfl, rfl⟩
  refine JL.nil ?_
  refine JQ.seq ?_
  refine JC.seq ?_
  refine JC.region ?_
  refine JL.op rfl (JO.buildSlice (ps := []) (cur := #[]) Tryz.underlying29 Tryz.sizeOf113 Tryz.zeroValue113 rfl (by kernel_rfl) (by decide) (by decide)) ?_
  rintro _ _ ⟨a_2, rfl, rfl⟩
  refine JL.op rfl (JO.call [] Tryz.call147 rfl (D_machOf a_2 0 ([] : List Cell) (by first | omega | simp) 0 ⟨by simp, fun c hc => by cases hc⟩) rfl (fun w hw => hw.see (i := 0) rfl)) ?_
  rintro _ _ ⟨_, ⟨x_3, m_4, e_6, k_5, rfl, rfl⟩, rfl⟩
  refine JL.op rfl (JO.alloc (z := .agg #[.slice none 0 0, .slice none 0 0, .slice none 0 0]) (cs := [.slice none 0 0, .slice none 0 0, .slice none 0 0]) Tryz.zeroValue32 rfl) ?_
  rintro _ _ ⟨b_7, rfl, rfl⟩
  refine JL.op rfl (JO.store 0 (vs := [.slice x_3.a0 m_4.s.length x_3.c0, .slice x_3.a1 m_4.r.length x_3.c1, .slice x_3.a2 m_4.w.length x_3.c2]) (cs' := [.slice x_3.a0 m_4.s.length x_3.c0, .slice x_3.a1 m_4.r.length x_3.c1, .slice x_3.a2 m_4.w.length x_3.c2]) rfl rfl rfl rfl Tryz.sizeOf32 rfl rfl (Nat.le_of_ble_eq_true rfl) rfl) ?_
  rintro _ _ rfl
  refine JL.nil ?_
  refine JQ.seq ?_
  refine JC.seq ?_
  refine JC.region ?_
  refine JL.ld rfl (LO.loadK 0 (vs := [.slice x_3.a0 m_4.s.length x_3.c0, .slice x_3.a1 m_4.r.length x_3.c1, .slice x_3.a2 m_4.w.length x_3.c2]) rfl rfl Tryz.isAgg32 Tryz.sizeOf32 rfl rfl) ?_
  refine JL.op rfl (JO.call [1, 1, 1] Tryz.call177 rfl (M_spawn x_3 m_4 k_5 (by omega) (by omega) 0 (by omega)) rfl (fun _ _ => trivial)) ?_
  rintro _ _ ⟨_, ⟨x_10, m_11, n_12, n_14, e_8, k_9, f_13, f_15, rfl, rfl⟩, rfl⟩
  refine JL.pure rfl (PO.move (v := .tuple #[mv x_10 m_11, .int .i64 n_12, .int .i64 n_14]) rfl) ?_
  refine JL.pure rfl (PO.extract (v := mv x_10 m_11) rfl rfl) ?_
  refine JL.pure rfl (PO.extract (v := .int .i64 n_12) rfl rfl) ?_
  refine JL.pure rfl (PO.extract (v := .int .i64 n_14) rfl rfl) ?_
  refine JL.op rfl (JO.store 3 (vs := [.slice x_10.a0 m_11.s.length x_10.c0, .slice x_10.a1 m_11.r.length x_10.c1, .slice x_10.a2 m_11.w.length x_10.c2]) (cs' := [.slice x_10.a0 m_11.s.length x_10.c0, .slice x_10.a1 m_11.r.length x_10.c1, .slice x_10.a2 m_11.w.length x_10.c2]) rfl rfl rfl rfl Tryz.sizeOf32 rfl rfl (Nat.le_of_ble_eq_true rfl) rfl) ?_
  rintro _ _ rfl
  refine JL.nil ?_
  refine JQ.seq ?_
  refine JC.seq ?_
  refine JC.seq ?_
  refine JC.region ?_
  refine JL.pure rfl (PO.assign (v := .int .i64 0) rfl) ?_
  refine JL.nil ?_
  refine JQ.seq ?_
  refine JC.block ?_
  refine JC.loop (fun k_ e_ L_ => ∃ i_ : Nat, ∃ p_q : Nat, ∃ s_q : Int, ∃ x1 : MA, ∃ mm : MS, (p_q ≤ ql.length) ∧ (mm.ok (3 + 3 * i_) (4 + 50 * i_)) ∧ (i_ ≤ 7) ∧ e_ 0 = .pointer (some ⟨qb, 0, none⟩) ∧ e_ 2 = .pointer (some ⟨b_1, 0, none⟩) ∧ e_ 3 = .pointer (some ⟨b_7, 0, none⟩) ∧ e_ 4 = .int .i64 ((i_ : Nat) : Int) ∧ L_ = [rC x1.a0 x1.c0 mm.s, rS x1.a1 x1.c1 mm.r, rS x1.a2 x1.c2 mm.w, mb b_7 x1 mm, Res.row (.slice a_2 0 0) 113 2 0 (([] : List Cell).flatMap encC), bk b_1 32 [.slice none 0 0, .slice none 0 0, .slice none 0 0], cb qb qa qc ql p_q s_q] ∧ k_ = 8 - i_) _ ⟨0, qp, qs, x_10, m_11, (by omega), (k_9.mono (by omega) (by omega)), (by omega), rfl, rfl, rfl, rfl, rfl, rfl⟩ ?_
  rintro _ e_16 _ ⟨i_, p_q, s_q, x1, mm, hpq_, hkmm, hi, he_17, he_18, he_19, he_20, rfl, rfl⟩
  refine JC.seq ?_
  refine JC.seq ?_
  refine JC.region ?_
  refine JL.pure rfl (PO.move (v := .int .i64 ((i_ : Nat) : Int)) he_20) ?_
  refine JL.pure rfl (PO.move (v := .pointer (some ⟨qb, 0, none⟩)) he_17) ?_
  refine JL.op rfl (JO.call [6] Tryz.call173 rfl (D_below qb qa qc ql p_q s_q (by omega) (by omega) 7 (by omega)) rfl (fun w hw => ⟨hw.seeOut_ hs_qa (hpre.2), hw.apart hs_qa (hpre.2) (by simp)⟩)) ?_
  rintro _ _ ⟨_, ⟨qp_21, qs_22, n_24, fq_23, f_25, rfl, rfl⟩, rfl⟩
  refine JL.pure rfl (PO.lss rfl rfl) ?_
  refine JL.nil ?_
  refine JQ.seq ?_
  by_cases h_27 : ((i_ : Nat) : Int) < ((n_24 : Nat) : Int)
  · skip
    refine JC.condT (congrArg Value.bool (decide_eq_true h_27)) ?_
    refine JC.skip ?_
    refine JQ.seq ?_
    refine JC.seq ?_
    refine JC.block ?_
    refine JC.seq ?_
    refine JC.region ?_
    refine JL.pure rfl (PO.move (v := .pointer (some ⟨qb, 0, none⟩)) he_17) ?_
    refine JL.op rfl (JO.call [0] Tryz.call173 rfl (D_below qb qa qc ql qp_21 qs_22 (by omega) (by omega) 4 (by omega)) rfl (fun w hw => ⟨hw.seeOut_ hs_qa (hpre.2), hw.apart hs_qa (hpre.2) (by simp)⟩)) ?_
    rintro _ _ ⟨_, ⟨qp_28, qs_29, n_31, fq_30, f_32, rfl, rfl⟩, rfl⟩
    refine JL.nil ?_
    refine JQ.seq ?_
    refine JC.block ?_
    refine JC.seq ?_
    refine JC.region ?_
    refine JL.pure rfl (PO.eqlI rfl rfl) ?_
    refine JL.pure rfl (PO.assign (v := .bool (decide (((n_31 : Nat) : Int) = 0))) rfl) ?_
    refine JL.nil ?_
    refine JQ.seq ?_
    by_cases h_34 : ((n_31 : Nat) : Int) = 0
    · skip
      refine JC.condT (congrArg Value.bool (decide_eq_true h_34)) ?_
      refine JC.regionA [mb b_7 x1 mm] 10 mixed (by simp) ?_
      refine JA.take 0 rfl (by kernel_rfl) (NP.bl (NP.bl (NP.th (NP.th (NP.bl (NP.th NP.body)))))) (by kernel_rfl) (by kernel_rfl) (by kernel_rfl) rfl (LO.loadK 0 (vs := [.slice x1.a0 mm.s.length x1.c0, .slice x1.a1 mm.r.length x1.c1, .slice x1.a2 mm.w.length x1.c2]) rfl he_19 Tryz.isAgg32 Tryz.sizeOf32 rfl rfl) ?_
      refine JA.takeP 1 rfl (by kernel_rfl) (NP.bl (NP.bl (NP.th (NP.th (NP.bl (NP.th NP.body)))))) (by kernel_rfl) (by kernel_rfl) rfl (PO.move (v := .pointer (some ⟨qb, 0, none⟩)) he_17) ?_
      refine JA.takeP 4 rfl (by kernel_rfl) (NP.bl (NP.bl (NP.th (NP.th (NP.bl (NP.th NP.body)))))) (by kernel_rfl) (by kernel_rfl) rfl (PO.move (v := .pointer (some ⟨qb, 0, none⟩)) he_17) ?_
      refine JA.one (i := 2) (by kernel_rfl) ?_
      refine JX.op rfl rfl (JO.call [0] Tryz.call173 rfl (D_below qb qa qc ql qp_28 qs_29 (by omega) (by omega) 4 (by omega)) rfl (fun w hw => ⟨hw.seeOut_ hs_qa (hpre.2), hw.apart hs_qa (hpre.2) (by simp)⟩)) ?_
      rintro _ _ ⟨_, ⟨qp_47, qs_48, n_50, fq_49, f_51, rfl, rfl⟩, rfl⟩
      refine ⟨(by simp), ?_⟩
      refine JA.takeP 3 rfl (by kernel_rfl) (NP.bl (NP.bl (NP.th (NP.th (NP.bl (NP.th NP.body)))))) (by kernel_rfl) (by kernel_rfl) rfl (PO.add (c := ((1 + n_50 : Nat) : Int)) rfl rfl (wr (by omega))) ?_
      refine JA.one (i := 5) (by kernel_rfl) ?_
      refine JX.op rfl rfl (JO.call [0] Tryz.call173 rfl (D_below qb qa qc ql qp_47 qs_48 (by omega) (by omega) 9 (by omega)) rfl (fun w hw => ⟨hw.seeOut_ hs_qa (hpre.2), hw.apart hs_qa (hpre.2) (by simp)⟩)) ?_
      rintro _ _ ⟨_, ⟨qp_59, qs_60, n_62, fq_61, f_63, rfl, rfl⟩, rfl⟩
      refine ⟨(by simp), ?_⟩
      refine JA.one (i := 6) (by kernel_rfl) ?_
      refine JX.op rfl rfl (JO.call [1, 1, 1] Tryz.call181 rfl (M_end x1 mm hkmm (by omega) (by omega) ((1 + n_50 : Nat) : Int) ((n_62 : Nat) : Int) (by omega) (by omega)) rfl (fun _ _ => trivial)) ?_
      rintro _ _ ⟨_, ⟨x_73, m_74, n_75, e_71, k_72, f_76, rfl, rfl⟩, rfl⟩
      refine ⟨(by simp), ?_⟩
      refine JA.takeP 7 rfl (by kernel_rfl) (NP.bl (NP.bl (NP.th (NP.th (NP.bl (NP.th NP.body)))))) (by kernel_rfl) (by kernel_rfl) rfl (PO.move (v := .tuple #[mv x_73 m_74, .int .i64 n_75]) rfl) ?_
      refine JA.takeP 8 rfl (by kernel_rfl) (NP.bl (NP.bl (NP.th (NP.th (NP.bl (NP.th NP.body)))))) (by kernel_rfl) (by kernel_rfl) rfl (PO.extract (v := mv x_73 m_74) rfl rfl) ?_
      refine JA.takeP 9 rfl (by kernel_rfl) (NP.bl (NP.bl (NP.th (NP.th (NP.bl (NP.th NP.body)))))) (by kernel_rfl) (by kernel_rfl) rfl (PO.extract (v := .int .i64 n_75) rfl rfl) ?_
      refine JA.one (i := 10) (by kernel_rfl) ?_
      refine JX.last rfl rfl (by decide) (by kernel_rfl) (JO.store 4 (vs := [.slice x_73.a0 m_74.s.length x_73.c0, .slice x_73.a1 m_74.r.length x_73.c1, .slice x_73.a2 m_74.w.length x_73.c2]) (cs' := [.slice x_73.a0 m_74.s.length x_73.c0, .slice x_73.a1 m_74.r.length x_73.c1, .slice x_73.a2 m_74.w.length x_73.c2]) rfl he_19 rfl rfl Tryz.sizeOf32 rfl rfl (Nat.le_of_ble_eq_true rfl) rfl) ?_
      rintro _ _ rfl
      refine JQ.blockN ?_
      refine JQ.blockN ?_
      refine JQ.seq ?_
      refine JC.region ?_
      refine JL.pure rfl (PO.move (v := .int .i64 ((i_ : Nat) : Int)) he_20) ?_
      refine JL.pure rfl (PO.add (c := ((i_ + 1 : Nat) : Int)) rfl rfl (wr (by omega))) ?_
      refine JL.pure rfl (PO.assign (v := .int .i64 ((i_ + 1 : Nat) : Int)) rfl) ?_
      refine JL.nil ?_
      refine JQ.pick [0, 0, 0, 1, 1, 1, 0] (A := [rC x_73.a0 x_73.c0 m_74.s, rS x_73.a1 x_73.c1 m_74.r, rS x_73.a2 x_73.c2 m_74.w, mb b_7 x_73 m_74, Res.row (.slice a_2 0 0) 113 2 0 (([] : List Cell).flatMap encC), bk b_1 32 [.slice none 0 0, .slice none 0 0, .slice none 0 0], cb qb qa qc ql qp_59 qs_60]) rfl ?_
      refine JQ.again (8 - (i_ + 1)) (by omega) ⟨(i_ + 1), qp_59, qs_60, x_73, m_74, (by omega), (k_72.mono (by omega) (by omega)), (by omega), he_17, he_18, he_19, rfl, rfl, rfl⟩
    · skip
      refine JC.condF (congrArg Value.bool (decide_eq_false h_34)) ?_
      refine JC.seq ?_
      refine JC.region ?_
      refine JL.pure rfl (PO.eqlI rfl rfl) ?_
      refine JL.pure rfl (PO.assign (v := .bool (decide (((n_31 : Nat) : Int) = 1))) rfl) ?_
      refine JL.nil ?_
      refine JQ.seq ?_
      by_cases h_77 : ((n_31 : Nat) : Int) = 1
      · skip
        refine JC.condT (congrArg Value.bool (decide_eq_true h_77)) ?_
        refine JC.regionA [mb b_7 x1 mm] 9 mixed (by simp) ?_
        refine JA.take 0 rfl (by kernel_rfl) (NP.bl (NP.bl (NP.th (NP.th (NP.bl (NP.th NP.body)))))) (by kernel_rfl) (by kernel_rfl) (by kernel_rfl) rfl (LO.loadK 0 (vs := [.slice x1.a0 mm.s.length x1.c0, .slice x1.a1 mm.r.length x1.c1, .slice x1.a2 mm.w.length x1.c2]) rfl he_19 Tryz.isAgg32 Tryz.sizeOf32 rfl rfl) ?_
        refine JA.takeP 1 rfl (by kernel_rfl) (NP.bl (NP.bl (NP.th (NP.th (NP.bl (NP.th NP.body)))))) (by kernel_rfl) (by kernel_rfl) rfl (PO.move (v := .pointer (some ⟨qb, 0, none⟩)) he_17) ?_
        refine JA.one (i := 2) (by kernel_rfl) ?_
        refine JX.op rfl rfl (JO.call [0] Tryz.call173 rfl (D_below qb qa qc ql qp_28 qs_29 (by omega) (by omega) 4 (by omega)) rfl (fun w hw => ⟨hw.seeOut_ hs_qa (hpre.2), hw.apart hs_qa (hpre.2) (by simp)⟩)) ?_
        rintro _ _ ⟨_, ⟨qp_84, qs_85, n_87, fq_86, f_88, rfl, rfl⟩, rfl⟩
        refine ⟨(by simp), ?_⟩
        refine JA.takeP 3 rfl (by kernel_rfl) (NP.bl (NP.bl (NP.th (NP.th (NP.bl (NP.th NP.body)))))) (by kernel_rfl) (by kernel_rfl) rfl (PO.add (c := ((1 + n_87 : Nat) : Int)) rfl rfl (wr (by omega))) ?_
        refine JA.one (i := 4) (by kernel_rfl) ?_
        refine JX.op rfl rfl (JO.call [1, 1, 1] Tryz.call183 rfl (M_reap x1 mm hkmm (by omega) (by omega) 1 ((1 + n_87 : Nat) : Int) (by omega) (by omega)) rfl (fun _ _ => trivial)) ?_
        rintro _ _ ⟨_, ⟨x_100, m_101, n_102, n_104, e_98, k_99, f_103, f_105, rfl, rfl⟩, rfl⟩
        refine ⟨(by simp), ?_⟩
        refine JA.takeP 5 rfl (by kernel_rfl) (NP.bl (NP.bl (NP.th (NP.th (NP.bl (NP.th NP.body)))))) (by kernel_rfl) (by kernel_rfl) rfl (PO.move (v := .tuple #[mv x_100 m_101, .int .i64 n_102, .int .i64 n_104]) rfl) ?_
        refine JA.takeP 6 rfl (by kernel_rfl) (NP.bl (NP.bl (NP.th (NP.th (NP.bl (NP.th NP.body)))))) (by kernel_rfl) (by kernel_rfl) rfl (PO.extract (v := mv x_100 m_101) rfl rfl) ?_
        refine JA.takeP 7 rfl (by kernel_rfl) (NP.bl (NP.bl (NP.th (NP.th (NP.bl (NP.th NP.body)))))) (by kernel_rfl) (by kernel_rfl) rfl (PO.extract (v := .int .i64 n_102) rfl rfl) ?_
        refine JA.takeP 8 rfl (by kernel_rfl) (NP.bl (NP.bl (NP.th (NP.th (NP.bl (NP.th NP.body)))))) (by kernel_rfl) (by kernel_rfl) rfl (PO.extract (v := .int .i64 n_104) rfl rfl) ?_
        refine JA.one (i := 9) (by kernel_rfl) ?_
        refine JX.last rfl rfl (by decide) (by kernel_rfl) (JO.store 4 (vs := [.slice x_100.a0 m_101.s.length x_100.c0, .slice x_100.a1 m_101.r.length x_100.c1, .slice x_100.a2 m_101.w.length x_100.c2]) (cs' := [.slice x_100.a0 m_101.s.length x_100.c0, .slice x_100.a1 m_101.r.length x_100.c1, .slice x_100.a2 m_101.w.length x_100.c2]) rfl he_19 rfl rfl Tryz.sizeOf32 rfl rfl (Nat.le_of_ble_eq_true rfl) rfl) ?_
        rintro _ _ rfl
        refine JQ.blockN ?_
        refine JQ.blockN ?_
        refine JQ.seq ?_
        refine JC.region ?_
        refine JL.pure rfl (PO.move (v := .int .i64 ((i_ : Nat) : Int)) he_20) ?_
        refine JL.pure rfl (PO.add (c := ((i_ + 1 : Nat) : Int)) rfl rfl (wr (by omega))) ?_
        refine JL.pure rfl (PO.assign (v := .int .i64 ((i_ + 1 : Nat) : Int)) rfl) ?_
        refine JL.nil ?_
        refine JQ.pick [0, 0, 0, 1, 1, 1, 0] (A := [rC x_100.a0 x_100.c0 m_101.s, rS x_100.a1 x_100.c1 m_101.r, rS x_100.a2 x_100.c2 m_101.w, mb b_7 x_100 m_101, Res.row (.slice a_2 0 0) 113 2 0 (([] : List Cell).flatMap encC), bk b_1 32 [.slice none 0 0, .slice none 0 0, .slice none 0 0], cb qb qa qc ql qp_84 qs_85]) rfl ?_
        refine JQ.again (8 - (i_ + 1)) (by omega) ⟨(i_ + 1), qp_84, qs_85, x_100, m_101, (by omega), (k_99.mono (by omega) (by omega)), (by omega), he_17, he_18, he_19, rfl, rfl, rfl⟩
      · skip
        refine JC.condF (congrArg Value.bool (decide_eq_false h_77)) ?_
        refine JC.regionA [mb b_7 x1 mm] 9 mixed (by simp) ?_
        refine JA.take 0 rfl (by kernel_rfl) (NP.bl (NP.bl (NP.th (NP.th (NP.bl (NP.th NP.body)))))) (by kernel_rfl) (by kernel_rfl) (by kernel_rfl) rfl (LO.loadK 0 (vs := [.slice x1.a0 mm.s.length x1.c0, .slice x1.a1 mm.r.length x1.c1, .slice x1.a2 mm.w.length x1.c2]) rfl he_19 Tryz.isAgg32 Tryz.sizeOf32 rfl rfl) ?_
        refine JA.takeP 1 rfl (by kernel_rfl) (NP.bl (NP.bl (NP.th (NP.th (NP.bl (NP.th NP.body)))))) (by kernel_rfl) (by kernel_rfl) rfl (PO.move (v := .pointer (some ⟨qb, 0, none⟩)) he_17) ?_
        refine JA.one (i := 2) (by kernel_rfl) ?_
        refine JX.op rfl rfl (JO.call [0] Tryz.call173 rfl (D_below qb qa qc ql qp_28 qs_29 (by omega) (by omega) 2 (by omega)) rfl (fun w hw => ⟨hw.seeOut_ hs_qa (hpre.2), hw.apart hs_qa (hpre.2) (by simp)⟩)) ?_
        rintro _ _ ⟨_, ⟨qp_112, qs_113, n_115, fq_114, f_116, rfl, rfl⟩, rfl⟩
        refine ⟨(by simp), ?_⟩
        refine JA.takeP 3 rfl (by kernel_rfl) (NP.bl (NP.bl (NP.th (NP.th (NP.bl (NP.th NP.body)))))) (by kernel_rfl) (by kernel_rfl) rfl (PO.add (c := ((1 + n_115 : Nat) : Int)) rfl rfl (wr (by omega))) ?_
        refine JA.one (i := 4) (by kernel_rfl) ?_
        refine JX.op rfl rfl (JO.call [1, 1, 1] Tryz.call177 rfl (M_spawn x1 mm hkmm (by omega) (by omega) ((1 + n_115 : Nat) : Int) (by omega)) rfl (fun _ _ => trivial)) ?_
        rintro _ _ ⟨_, ⟨x_128, m_129, n_130, n_132, e_126, k_127, f_131, f_133, rfl, rfl⟩, rfl⟩
        refine ⟨(by simp), ?_⟩
        refine JA.takeP 5 rfl (by kernel_rfl) (NP.bl (NP.bl (NP.th (NP.th (NP.bl (NP.th NP.body)))))) (by kernel_rfl) (by kernel_rfl) rfl (PO.move (v := .tuple #[mv x_128 m_129, .int .i64 n_130, .int .i64 n_132]) rfl) ?_
        refine JA.takeP 6 rfl (by kernel_rfl) (NP.bl (NP.bl (NP.th (NP.th (NP.bl (NP.th NP.body)))))) (by kernel_rfl) (by kernel_rfl) rfl (PO.extract (v := mv x_128 m_129) rfl rfl) ?_
        refine JA.takeP 7 rfl (by kernel_rfl) (NP.bl (NP.bl (NP.th (NP.th (NP.bl (NP.th NP.body)))))) (by kernel_rfl) (by kernel_rfl) rfl (PO.extract (v := .int .i64 n_130) rfl rfl) ?_
        refine JA.takeP 8 rfl (by kernel_rfl) (NP.bl (NP.bl (NP.th (NP.th (NP.bl (NP.th NP.body)))))) (by kernel_rfl) (by kernel_rfl) rfl (PO.extract (v := .int .i64 n_132) rfl rfl) ?_
        refine JA.one (i := 9) (by kernel_rfl) ?_
        refine JX.last rfl rfl (by decide) (by kernel_rfl) (JO.store 4 (vs := [.slice x_128.a0 m_129.s.length x_128.c0, .slice x_128.a1 m_129.r.length x_128.c1, .slice x_128.a2 m_129.w.length x_128.c2]) (cs' := [.slice x_128.a0 m_129.s.length x_128.c0, .slice x_128.a1 m_129.r.length x_128.c1, .slice x_128.a2 m_129.w.length x_128.c2]) rfl he_19 rfl rfl Tryz.sizeOf32 rfl rfl (Nat.le_of_ble_eq_true rfl) rfl) ?_
        rintro _ _ rfl
        refine JQ.blockN ?_
        refine JQ.blockN ?_
        refine JQ.seq ?_
        refine JC.region ?_
        refine JL.pure rfl (PO.move (v := .int .i64 ((i_ : Nat) : Int)) he_20) ?_
        refine JL.pure rfl (PO.add (c := ((i_ + 1 : Nat) : Int)) rfl rfl (wr (by omega))) ?_
        refine JL.pure rfl (PO.assign (v := .int .i64 ((i_ + 1 : Nat) : Int)) rfl) ?_
        refine JL.nil ?_
        refine JQ.pick [0, 0, 0, 1, 1, 1, 0] (A := [rC x_128.a0 x_128.c0 m_129.s, rS x_128.a1 x_128.c1 m_129.r, rS x_128.a2 x_128.c2 m_129.w, mb b_7 x_128 m_129, Res.row (.slice a_2 0 0) 113 2 0 (([] : List Cell).flatMap encC), bk b_1 32 [.slice none 0 0, .slice none 0 0, .slice none 0 0], cb qb qa qc ql qp_112 qs_113]) rfl ?_
        refine JQ.again (8 - (i_ + 1)) (by omega) ⟨(i_ + 1), qp_112, qs_113, x_128, m_129, (by omega), (k_127.mono (by omega) (by omega)), (by omega), he_17, he_18, he_19, rfl, rfl, rfl⟩
  · skip
    refine JC.condF (congrArg Value.bool (decide_eq_false h_27)) ?_
    refine JC.exit ?_
    refine JQ.thenExit ?_
    refine JQ.thenExit ?_
    refine JQ.blockE ?_
    refine JQ.seq ?_
    refine JC.seq ?_
    refine JC.seq ?_
    refine JC.region ?_
    refine JL.pure rfl (PO.move (v := .pointer (some ⟨qb, 0, none⟩)) he_17) ?_
    refine JL.op rfl (JO.call [0] Tryz.call173 rfl (D_below qb qa qc ql qp_21 qs_22 (by omega) (by omega) 12 (by omega)) rfl (fun w hw => ⟨hw.seeOut_ hs_qa (hpre.2), hw.apart hs_qa (hpre.2) (by simp)⟩)) ?_
    rintro _ _ ⟨_, ⟨qp_134, qs_135, n_137, fq_136, f_138, rfl, rfl⟩, rfl⟩
    refine JL.nil ?_
    refine JQ.seq ?_
    refine JC.block ?_
    refine JC.seq ?_
    refine JC.region ?_
    refine JL.pure rfl (PO.eqlI rfl rfl) ?_
    refine JL.pure rfl (PO.assign (v := .bool (decide (((n_137 : Nat) : Int) = 0))) rfl) ?_
    refine JL.nil ?_
    refine JQ.seq ?_
    by_cases h_140 : ((n_137 : Nat) : Int) = 0
    · skip
      refine JC.condT (congrArg Value.bool (decide_eq_true h_140)) ?_
      refine JC.regionA [mb b_7 x1 mm] 4 mixed (by simp) ?_
      refine JA.take 0 rfl (by kernel_rfl) (NP.bl (NP.th NP.body)) (by kernel_rfl) (by kernel_rfl) (by kernel_rfl) rfl (LO.loadK 0 (vs := [.slice x1.a0 mm.s.length x1.c0, .slice x1.a1 mm.r.length x1.c1, .slice x1.a2 mm.w.length x1.c2]) rfl he_19 Tryz.isAgg32 Tryz.sizeOf32 rfl rfl) ?_
      refine JA.takeP 1 rfl (by kernel_rfl) (NP.bl (NP.th NP.body)) (by kernel_rfl) (by kernel_rfl) rfl (PO.move (v := .pointer (some ⟨qb, 0, none⟩)) he_17) ?_
      refine JA.one (i := 2) (by kernel_rfl) ?_
      refine JX.op rfl rfl (JO.call [0] Tryz.call173 rfl (D_below qb qa qc ql qp_134 qs_135 (by omega) (by omega) 2 (by omega)) rfl (fun w hw => ⟨hw.seeOut_ hs_qa (hpre.2), hw.apart hs_qa (hpre.2) (by simp)⟩)) ?_
      rintro _ _ ⟨_, ⟨qp_147, qs_148, n_150, fq_149, f_151, rfl, rfl⟩, rfl⟩
      refine ⟨(by simp), ?_⟩
      refine JA.takeP 3 rfl (by kernel_rfl) (NP.bl (NP.th NP.body)) (by kernel_rfl) (by kernel_rfl) rfl (PO.add (c := ((11 + n_150 : Nat) : Int)) rfl rfl (wr (by omega))) ?_
      refine JA.one (i := 4) (by kernel_rfl) ?_
      refine JX.late rfl rfl (by decide) (by kernel_rfl) (JO.call [1, 1, 1] Tryz.call233 rfl (N_sSetNum x1 mm hkmm (by omega) (by omega) [99, 47, 112, 114, 111, 99] ((11 + n_150 : Nat) : Int) (by decide) (by omega)) rfl (fun _ _ => trivial)) ?_
      rintro _ _ ⟨_, ⟨x_159, m_160, e_157, k_158, rfl, rfl⟩, rfl⟩
      refine JA.one (i := 5) (by kernel_rfl) ?_
      refine JX.last rfl rfl (by decide) (by kernel_rfl) (JO.store 4 (vs := [.slice x_159.a0 m_160.s.length x_159.c0, .slice x_159.a1 m_160.r.length x_159.c1, .slice x_159.a2 m_160.w.length x_159.c2]) (cs' := [.slice x_159.a0 m_160.s.length x_159.c0, .slice x_159.a1 m_160.r.length x_159.c1, .slice x_159.a2 m_160.w.length x_159.c2]) rfl he_19 rfl rfl Tryz.sizeOf32 rfl rfl (Nat.le_of_ble_eq_true rfl) rfl) ?_
      rintro _ _ rfl
      refine JQ.blockN ?_
      refine JQ.seq ?_
      refine JC.seq ?_
      refine JC.region ?_
      refine JL.ld rfl (LO.loadK 4 (vs := [.slice x_159.a0 m_160.s.length x_159.c0, .slice x_159.a1 m_160.r.length x_159.c1, .slice x_159.a2 m_160.w.length x_159.c2]) rfl he_19 Tryz.isAgg32 Tryz.sizeOf32 rfl rfl) ?_
      refine JL.op rfl (JO.store 6 (vs := [.slice x_159.a0 m_160.s.length x_159.c0, .slice x_159.a1 m_160.r.length x_159.c1, .slice x_159.a2 m_160.w.length x_159.c2]) (cs' := [.slice x_159.a0 m_160.s.length x_159.c0, .slice x_159.a1 m_160.r.length x_159.c1, .slice x_159.a2 m_160.w.length x_159.c2]) rfl he_18 rfl rfl Tryz.sizeOf32 rfl rfl (Nat.le_of_ble_eq_true rfl) rfl) ?_
      rintro _ _ rfl
      refine JL.nil ?_
      refine JQ.seq ?_
      refine JC.ret ?_
      refine JQ.perm (pick_perm [3, 0, 0, 0] (A := [cb qb qa qc ql qp_147 qs_148, rC x_159.a0 x_159.c0 m_160.s, rS x_159.a1 x_159.c1 m_160.r, rS x_159.a2 x_159.c2 m_160.w]) (F := [mb b_7 x_159 m_160, Res.row (.slice a_2 0 0) 113 2 0 (([] : List Cell).flatMap encC), mb b_1 x_159 m_160]) rfl).symm ?_
      refine Done.one (.inl rfl) rfl (RV.cell1 (LO.loadK 6 (vs := [.slice x_159.a0 m_160.s.length x_159.c0, .slice x_159.a1 m_160.r.length x_159.c1, .slice x_159.a2 m_160.w.length x_159.c2]) rfl he_18 Tryz.isAgg32 Tryz.sizeOf32 rfl rfl) ⟨_, he_18⟩) (List.sublist_append_left [cb qb qa qc ql qp_147 qs_148, rC x_159.a0 x_159.c0 m_160.s, rS x_159.a1 x_159.c1 m_160.r, rS x_159.a2 x_159.c2 m_160.w] [mb b_7 x_159 m_160, Res.row (.slice a_2 0 0) 113 2 0 (([] : List Cell).flatMap encC), mb b_1 x_159 m_160]) ?_
      exact ⟨qp_147, qs_148, x_159, m_160, (by omega), (k_158.mono (by omega) (by omega)), rfl, rfl⟩
    · skip
      refine JC.condF (congrArg Value.bool (decide_eq_false h_140)) ?_
      refine JC.seq ?_
      refine JC.region ?_
      refine JL.pure rfl (PO.eqlI rfl rfl) ?_
      refine JL.pure rfl (PO.assign (v := .bool (decide (((n_137 : Nat) : Int) = 1))) rfl) ?_
      refine JL.nil ?_
      refine JQ.seq ?_
      by_cases h_161 : ((n_137 : Nat) : Int) = 1
      · skip
        refine JC.condT (congrArg Value.bool (decide_eq_true h_161)) ?_
        refine JC.regionA [mb b_7 x1 mm] 8 mixed (by simp) ?_
        refine JA.take 0 rfl (by kernel_rfl) (NP.bl (NP.th NP.body)) (by kernel_rfl) (by kernel_rfl) (by kernel_rfl) rfl (LO.loadK 0 (vs := [.slice x1.a0 mm.s.length x1.c0, .slice x1.a1 mm.r.length x1.c1, .slice x1.a2 mm.w.length x1.c2]) rfl he_19 Tryz.isAgg32 Tryz.sizeOf32 rfl rfl) ?_
        refine JA.takeP 1 rfl (by kernel_rfl) (NP.bl (NP.th NP.body)) (by kernel_rfl) (by kernel_rfl) rfl (PO.move (v := .pointer (some ⟨qb, 0, none⟩)) he_17) ?_
        refine JA.takeP 4 rfl (by kernel_rfl) (NP.bl (NP.th NP.body)) (by kernel_rfl) (by kernel_rfl) rfl (PO.move (v := .pointer (some ⟨qb, 0, none⟩)) he_17) ?_
        refine JA.two (i := 2) (j := 5) (by kernel_rfl) ?_ ?_
        · skip
          refine JX.op rfl rfl (JO.buildSlice (ps := [(0, str [114, 47, 49, 47, 115]), (1, str [114, 47, 50, 47, 112]), (2, str [114, 47, 50, 47, 120]), (3, str [114, 47, 120, 47, 112])]) (cur := #[str [114, 47, 49, 47, 115], str [114, 47, 50, 47, 112], str [114, 47, 50, 47, 120], str [114, 47, 120, 47, 112]]) Tryz.underlying23 Tryz.sizeOf9 Tryz.zeroValue9 rfl (by kernel_rfl) (by decide) (by decide)) ?_
          rintro _ _ ⟨a_165, rfl, rfl⟩
          refine ⟨(by simp), ?_⟩
          refine JA.two (i := 3) (j := 5) (by kernel_rfl) ?_ ?_
          · skip
            refine JX.op rfl rfl (JO.call [1, 0] Tryz.call259 rfl (D_pick qb qa qc ql qp_134 qs_135 a_165 4 ([[114, 47, 49, 47, 115], [114, 47, 50, 47, 112], [114, 47, 50, 47, 120], [114, 47, 120, 47, 112]] : List Str) (by omega) (by omega) (by simp) (by simp)) rfl (fun w hw => ⟨hw.seeOut_ hs_qa (hpre.2), hw.apart hs_qa (hpre.2) (by simp)⟩)) ?_
            rintro _ _ ⟨_, ⟨qp_173, qs_174, u_176, fq_175, f_177, rfl, rfl⟩, rfl⟩
            have hlu_176 : u_176.length ≤ 64 := by have hx_ := f_177; simp only [List.mem_cons, List.not_mem_nil, or_false] at hx_; rcases hx_ with hx_ | hx_ | hx_ | hx_ <;> first | (rw [hx_]; decide) | (rw [hx_]; omega)
            refine ⟨(by simp), ?_⟩
            refine JA.one (i := 5) (by kernel_rfl) ?_
            refine JX.op rfl rfl (JO.buildSlice (ps := [(0, str [55]), (1, str [120]), (2, str []), (3, str [49])]) (cur := #[str [55], str [120], str [], str [49]]) Tryz.underlying23 Tryz.sizeOf9 Tryz.zeroValue9 rfl (by kernel_rfl) (by decide) (by decide)) ?_
            rintro _ _ ⟨a_180, rfl, rfl⟩
            refine ⟨(by simp), ?_⟩
            refine JA.one (i := 6) (by kernel_rfl) ?_
            refine JX.op rfl rfl (JO.call [1, 0] Tryz.call259 rfl (D_pick qb qa qc ql qp_173 qs_174 a_180 4 ([[55], [120], [], [49]] : List Str) (by omega) (by omega) (by simp) (by simp)) rfl (fun w hw => ⟨hw.seeOut_ hs_qa (hpre.2), hw.apart hs_qa (hpre.2) (by simp)⟩)) ?_
            rintro _ _ ⟨_, ⟨qp_187, qs_188, u_190, fq_189, f_191, rfl, rfl⟩, rfl⟩
            have hlu_190 : u_190.length ≤ 64 := by have hx_ := f_191; simp only [List.mem_cons, List.not_mem_nil, or_false] at hx_; rcases hx_ with hx_ | hx_ | hx_ | hx_ <;> first | (rw [hx_]; decide) | (rw [hx_]; omega)
            refine ⟨(by simp), ?_⟩
            refine JA.one (i := 7) (by kernel_rfl) ?_
            refine JX.op rfl rfl (JO.call [1, 1, 1] Tryz.call232 rfl (N_sLay x1 mm hkmm (by omega) (by omega) u_176 u_190 (by omega)) rfl (fun _ _ => trivial)) ?_
            rintro _ _ ⟨_, ⟨x_199, m_200, e_197, k_198, rfl, rfl⟩, rfl⟩
            refine ⟨(by simp), ?_⟩
            refine JA.one (i := 8) (by kernel_rfl) ?_
            refine JX.last rfl rfl (by decide) (by kernel_rfl) (JO.store 4 (vs := [.slice x_199.a0 m_200.s.length x_199.c0, .slice x_199.a1 m_200.r.length x_199.c1, .slice x_199.a2 m_200.w.length x_199.c2]) (cs' := [.slice x_199.a0 m_200.s.length x_199.c0, .slice x_199.a1 m_200.r.length x_199.c1, .slice x_199.a2 m_200.w.length x_199.c2]) rfl he_19 rfl rfl Tryz.sizeOf32 rfl rfl (Nat.le_of_ble_eq_true rfl) rfl) ?_
            rintro _ _ rfl
            refine JQ.blockN ?_
            refine JQ.seq ?_
            refine JC.seq ?_
            refine JC.region ?_
            refine JL.ld rfl (LO.loadK 4 (vs := [.slice x_199.a0 m_200.s.length x_199.c0, .slice x_199.a1 m_200.r.length x_199.c1, .slice x_199.a2 m_200.w.length x_199.c2]) rfl he_19 Tryz.isAgg32 Tryz.sizeOf32 rfl rfl) ?_
            refine JL.op rfl (JO.store 6 (vs := [.slice x_199.a0 m_200.s.length x_199.c0, .slice x_199.a1 m_200.r.length x_199.c1, .slice x_199.a2 m_200.w.length x_199.c2]) (cs' := [.slice x_199.a0 m_200.s.length x_199.c0, .slice x_199.a1 m_200.r.length x_199.c1, .slice x_199.a2 m_200.w.length x_199.c2]) rfl he_18 rfl rfl Tryz.sizeOf32 rfl rfl (Nat.le_of_ble_eq_true rfl) rfl) ?_
            rintro _ _ rfl
            refine JL.nil ?_
            refine JQ.seq ?_
            refine JC.ret ?_
            refine JQ.perm (pick_perm [3, 0, 0, 0] (A := [cb qb qa qc ql qp_187 qs_188, rC x_199.a0 x_199.c0 m_200.s, rS x_199.a1 x_199.c1 m_200.r, rS x_199.a2 x_199.c2 m_200.w]) (F := [mb b_7 x_199 m_200, Res.row (.slice a_2 0 0) 113 2 0 (([] : List Cell).flatMap encC), mb b_1 x_199 m_200]) rfl).symm ?_
            refine Done.one (.inl rfl) rfl (RV.cell1 (LO.loadK 6 (vs := [.slice x_199.a0 m_200.s.length x_199.c0, .slice x_199.a1 m_200.r.length x_199.c1, .slice x_199.a2 m_200.w.length x_199.c2]) rfl he_18 Tryz.isAgg32 Tryz.sizeOf32 rfl rfl) ⟨_, he_18⟩) (List.sublist_append_left [cb qb qa qc ql qp_187 qs_188, rC x_199.a0 x_199.c0 m_200.s, rS x_199.a1 x_199.c1 m_200.r, rS x_199.a2 x_199.c2 m_200.w] [mb b_7 x_199 m_200, Res.row (.slice a_2 0 0) 113 2 0 (([] : List Cell).flatMap encC), mb b_1 x_199 m_200]) ?_
            exact ⟨qp_187, qs_188, x_199, m_200, (by omega), (k_198.mono (by omega) (by omega)), rfl, rfl⟩
          · skip
            refine JX.op rfl rfl (JO.buildSlice (ps := [(0, str [55]), (1, str [120]), (2, str []), (3, str [49])]) (cur := #[str [55], str [120], str [], str [49]]) Tryz.underlying23 Tryz.sizeOf9 Tryz.zeroValue9 rfl (by kernel_rfl) (by decide) (by decide)) ?_
            rintro _ _ ⟨a_201, rfl, rfl⟩
            refine ⟨(by simp), ?_⟩
            refine JA.one (i := 3) (by kernel_rfl) ?_
            refine JX.op rfl rfl (JO.call [2, 1] Tryz.call259 rfl (D_pick qb qa qc ql qp_134 qs_135 a_165 4 ([[114, 47, 49, 47, 115], [114, 47, 50, 47, 112], [114, 47, 50, 47, 120], [114, 47, 120, 47, 112]] : List Str) (by omega) (by omega) (by simp) (by simp)) rfl (fun w hw => ⟨hw.seeOut_ hs_qa (hpre.2), hw.apart hs_qa (hpre.2) (by simp)⟩)) ?_
            rintro _ _ ⟨_, ⟨qp_208, qs_209, u_211, fq_210, f_212, rfl, rfl⟩, rfl⟩
            have hlu_211 : u_211.length ≤ 64 := by have hx_ := f_212; simp only [List.mem_cons, List.not_mem_nil, or_false] at hx_; rcases hx_ with hx_ | hx_ | hx_ | hx_ <;> first | (rw [hx_]; decide) | (rw [hx_]; omega)
            refine ⟨(by simp), ?_⟩
            refine JA.one (i := 6) (by kernel_rfl) ?_
            refine JX.op rfl rfl (JO.call [0, 0] Tryz.call259 rfl (D_pick qb qa qc ql qp_208 qs_209 a_201 4 ([[55], [120], [], [49]] : List Str) (by omega) (by omega) (by simp) (by simp)) rfl (fun w hw => ⟨hw.seeOut_ hs_qa (hpre.2), hw.apart hs_qa (hpre.2) (by simp)⟩)) ?_
            rintro _ _ ⟨_, ⟨qp_220, qs_221, u_223, fq_222, f_224, rfl, rfl⟩, rfl⟩
            have hlu_223 : u_223.length ≤ 64 := by have hx_ := f_224; simp only [List.mem_cons, List.not_mem_nil, or_false] at hx_; rcases hx_ with hx_ | hx_ | hx_ | hx_ <;> first | (rw [hx_]; decide) | (rw [hx_]; omega)
            refine ⟨(by simp), ?_⟩
            refine JA.one (i := 7) (by kernel_rfl) ?_
            refine JX.op rfl rfl (JO.call [1, 1, 1] Tryz.call232 rfl (N_sLay x1 mm hkmm (by omega) (by omega) u_211 u_223 (by omega)) rfl (fun _ _ => trivial)) ?_
            rintro _ _ ⟨_, ⟨x_232, m_233, e_230, k_231, rfl, rfl⟩, rfl⟩
            refine ⟨(by simp), ?_⟩
            refine JA.one (i := 8) (by kernel_rfl) ?_
            refine JX.last rfl rfl (by decide) (by kernel_rfl) (JO.store 4 (vs := [.slice x_232.a0 m_233.s.length x_232.c0, .slice x_232.a1 m_233.r.length x_232.c1, .slice x_232.a2 m_233.w.length x_232.c2]) (cs' := [.slice x_232.a0 m_233.s.length x_232.c0, .slice x_232.a1 m_233.r.length x_232.c1, .slice x_232.a2 m_233.w.length x_232.c2]) rfl he_19 rfl rfl Tryz.sizeOf32 rfl rfl (Nat.le_of_ble_eq_true rfl) rfl) ?_
            rintro _ _ rfl
            refine JQ.blockN ?_
            refine JQ.seq ?_
            refine JC.seq ?_
            refine JC.region ?_
            refine JL.ld rfl (LO.loadK 4 (vs := [.slice x_232.a0 m_233.s.length x_232.c0, .slice x_232.a1 m_233.r.length x_232.c1, .slice x_232.a2 m_233.w.length x_232.c2]) rfl he_19 Tryz.isAgg32 Tryz.sizeOf32 rfl rfl) ?_
            refine JL.op rfl (JO.store 6 (vs := [.slice x_232.a0 m_233.s.length x_232.c0, .slice x_232.a1 m_233.r.length x_232.c1, .slice x_232.a2 m_233.w.length x_232.c2]) (cs' := [.slice x_232.a0 m_233.s.length x_232.c0, .slice x_232.a1 m_233.r.length x_232.c1, .slice x_232.a2 m_233.w.length x_232.c2]) rfl he_18 rfl rfl Tryz.sizeOf32 rfl rfl (Nat.le_of_ble_eq_true rfl) rfl) ?_
            rintro _ _ rfl
            refine JL.nil ?_
            refine JQ.seq ?_
            refine JC.ret ?_
            refine JQ.perm (pick_perm [3, 0, 0, 0] (A := [cb qb qa qc ql qp_220 qs_221, rC x_232.a0 x_232.c0 m_233.s, rS x_232.a1 x_232.c1 m_233.r, rS x_232.a2 x_232.c2 m_233.w]) (F := [mb b_7 x_232 m_233, Res.row (.slice a_2 0 0) 113 2 0 (([] : List Cell).flatMap encC), mb b_1 x_232 m_233]) rfl).symm ?_
            refine Done.one (.inl rfl) rfl (RV.cell1 (LO.loadK 6 (vs := [.slice x_232.a0 m_233.s.length x_232.c0, .slice x_232.a1 m_233.r.length x_232.c1, .slice x_232.a2 m_233.w.length x_232.c2]) rfl he_18 Tryz.isAgg32 Tryz.sizeOf32 rfl rfl) ⟨_, he_18⟩) (List.sublist_append_left [cb qb qa qc ql qp_220 qs_221, rC x_232.a0 x_232.c0 m_233.s, rS x_232.a1 x_232.c1 m_233.r, rS x_232.a2 x_232.c2 m_233.w] [mb b_7 x_232 m_233, Res.row (.slice a_2 0 0) 113 2 0 (([] : List Cell).flatMap encC), mb b_1 x_232 m_233]) ?_
            exact ⟨qp_220, qs_221, x_232, m_233, (by omega), (k_231.mono (by omega) (by omega)), rfl, rfl⟩
        · skip
          refine JX.op rfl rfl (JO.buildSlice (ps := [(0, str [55]), (1, str [120]), (2, str []), (3, str [49])]) (cur := #[str [55], str [120], str [], str [49]]) Tryz.underlying23 Tryz.sizeOf9 Tryz.zeroValue9 rfl (by kernel_rfl) (by decide) (by decide)) ?_
          rintro _ _ ⟨a_234, rfl, rfl⟩
          refine ⟨(by simp), ?_⟩
          refine JA.one (i := 2) (by kernel_rfl) ?_
          refine JX.op rfl rfl (JO.buildSlice (ps := [(0, str [114, 47, 49, 47, 115]), (1, str [114, 47, 50, 47, 112]), (2, str [114, 47, 50, 47, 120]), (3, str [114, 47, 120, 47, 112])]) (cur := #[str [114, 47, 49, 47, 115], str [114, 47, 50, 47, 112], str [114, 47, 50, 47, 120], str [114, 47, 120, 47, 112]]) Tryz.underlying23 Tryz.sizeOf9 Tryz.zeroValue9 rfl (by kernel_rfl) (by decide) (by decide)) ?_
          rintro _ _ ⟨a_236, rfl, rfl⟩
          refine ⟨(by simp), ?_⟩
          refine JA.one (i := 3) (by kernel_rfl) ?_
          refine JX.op rfl rfl (JO.call [2, 0] Tryz.call259 rfl (D_pick qb qa qc ql qp_134 qs_135 a_236 4 ([[114, 47, 49, 47, 115], [114, 47, 50, 47, 112], [114, 47, 50, 47, 120], [114, 47, 120, 47, 112]] : List Str) (by omega) (by omega) (by simp) (by simp)) rfl (fun w hw => ⟨hw.seeOut_ hs_qa (hpre.2), hw.apart hs_qa (hpre.2) (by simp)⟩)) ?_
          rintro _ _ ⟨_, ⟨qp_243, qs_244, u_246, fq_245, f_247, rfl, rfl⟩, rfl⟩
          have hlu_246 : u_246.length ≤ 64 := by have hx_ := f_247; simp only [List.mem_cons, List.not_mem_nil, or_false] at hx_; rcases hx_ with hx_ | hx_ | hx_ | hx_ <;> first | (rw [hx_]; decide) | (rw [hx_]; omega)
          refine ⟨(by simp), ?_⟩
          refine JA.one (i := 6) (by kernel_rfl) ?_
          refine JX.op rfl rfl (JO.call [0, 0] Tryz.call259 rfl (D_pick qb qa qc ql qp_243 qs_244 a_234 4 ([[55], [120], [], [49]] : List Str) (by omega) (by omega) (by simp) (by simp)) rfl (fun w hw => ⟨hw.seeOut_ hs_qa (hpre.2), hw.apart hs_qa (hpre.2) (by simp)⟩)) ?_
          rintro _ _ ⟨_, ⟨qp_255, qs_256, u_258, fq_257, f_259, rfl, rfl⟩, rfl⟩
          have hlu_258 : u_258.length ≤ 64 := by have hx_ := f_259; simp only [List.mem_cons, List.not_mem_nil, or_false] at hx_; rcases hx_ with hx_ | hx_ | hx_ | hx_ <;> first | (rw [hx_]; decide) | (rw [hx_]; omega)
          refine ⟨(by simp), ?_⟩
          refine JA.one (i := 7) (by kernel_rfl) ?_
          refine JX.op rfl rfl (JO.call [1, 1, 1] Tryz.call232 rfl (N_sLay x1 mm hkmm (by omega) (by omega) u_246 u_258 (by omega)) rfl (fun _ _ => trivial)) ?_
          rintro _ _ ⟨_, ⟨x_267, m_268, e_265, k_266, rfl, rfl⟩, rfl⟩
          refine ⟨(by simp), ?_⟩
          refine JA.one (i := 8) (by kernel_rfl) ?_
          refine JX.last rfl rfl (by decide) (by kernel_rfl) (JO.store 4 (vs := [.slice x_267.a0 m_268.s.length x_267.c0, .slice x_267.a1 m_268.r.length x_267.c1, .slice x_267.a2 m_268.w.length x_267.c2]) (cs' := [.slice x_267.a0 m_268.s.length x_267.c0, .slice x_267.a1 m_268.r.length x_267.c1, .slice x_267.a2 m_268.w.length x_267.c2]) rfl he_19 rfl rfl Tryz.sizeOf32 rfl rfl (Nat.le_of_ble_eq_true rfl) rfl) ?_
          rintro _ _ rfl
          refine JQ.blockN ?_
          refine JQ.seq ?_
          refine JC.seq ?_
          refine JC.region ?_
          refine JL.ld rfl (LO.loadK 4 (vs := [.slice x_267.a0 m_268.s.length x_267.c0, .slice x_267.a1 m_268.r.length x_267.c1, .slice x_267.a2 m_268.w.length x_267.c2]) rfl he_19 Tryz.isAgg32 Tryz.sizeOf32 rfl rfl) ?_
          refine JL.op rfl (JO.store 6 (vs := [.slice x_267.a0 m_268.s.length x_267.c0, .slice x_267.a1 m_268.r.length x_267.c1, .slice x_267.a2 m_268.w.length x_267.c2]) (cs' := [.slice x_267.a0 m_268.s.length x_267.c0, .slice x_267.a1 m_268.r.length x_267.c1, .slice x_267.a2 m_268.w.length x_267.c2]) rfl he_18 rfl rfl Tryz.sizeOf32 rfl rfl (Nat.le_of_ble_eq_true rfl) rfl) ?_
          rintro _ _ rfl
          refine JL.nil ?_
          refine JQ.seq ?_
          refine JC.ret ?_
          refine JQ.perm (pick_perm [3, 0, 0, 0] (A := [cb qb qa qc ql qp_255 qs_256, rC x_267.a0 x_267.c0 m_268.s, rS x_267.a1 x_267.c1 m_268.r, rS x_267.a2 x_267.c2 m_268.w]) (F := [mb b_7 x_267 m_268, Res.row (.slice a_2 0 0) 113 2 0 (([] : List Cell).flatMap encC), mb b_1 x_267 m_268]) rfl).symm ?_
          refine Done.one (.inl rfl) rfl (RV.cell1 (LO.loadK 6 (vs := [.slice x_267.a0 m_268.s.length x_267.c0, .slice x_267.a1 m_268.r.length x_267.c1, .slice x_267.a2 m_268.w.length x_267.c2]) rfl he_18 Tryz.isAgg32 Tryz.sizeOf32 rfl rfl) ⟨_, he_18⟩) (List.sublist_append_left [cb qb qa qc ql qp_255 qs_256, rC x_267.a0 x_267.c0 m_268.s, rS x_267.a1 x_267.c1 m_268.r, rS x_267.a2 x_267.c2 m_268.w] [mb b_7 x_267 m_268, Res.row (.slice a_2 0 0) 113 2 0 (([] : List Cell).flatMap encC), mb b_1 x_267 m_268]) ?_
          exact ⟨qp_255, qs_256, x_267, m_268, (by omega), (k_266.mono (by omega) (by omega)), rfl, rfl⟩
      · skip
        refine JC.condF (congrArg Value.bool (decide_eq_false h_161)) ?_
        refine JC.skip ?_
        refine JQ.blockN ?_
        refine JQ.seq ?_
        refine JC.seq ?_
        refine JC.region ?_
        refine JL.ld rfl (LO.loadK 4 (vs := [.slice x1.a0 mm.s.length x1.c0, .slice x1.a1 mm.r.length x1.c1, .slice x1.a2 mm.w.length x1.c2]) rfl he_19 Tryz.isAgg32 Tryz.sizeOf32 rfl rfl) ?_
        refine JL.op rfl (JO.store 6 (vs := [.slice x1.a0 mm.s.length x1.c0, .slice x1.a1 mm.r.length x1.c1, .slice x1.a2 mm.w.length x1.c2]) (cs' := [.slice x1.a0 mm.s.length x1.c0, .slice x1.a1 mm.r.length x1.c1, .slice x1.a2 mm.w.length x1.c2]) rfl he_18 rfl rfl Tryz.sizeOf32 rfl rfl (Nat.le_of_ble_eq_true rfl) rfl) ?_
        rintro _ _ rfl
        refine JL.nil ?_
        refine JQ.seq ?_
        refine JC.ret ?_
        refine Done.one (.inl rfl) rfl (RV.cell1 (LO.loadK 6 (vs := [.slice x1.a0 mm.s.length x1.c0, .slice x1.a1 mm.r.length x1.c1, .slice x1.a2 mm.w.length x1.c2]) rfl he_18 Tryz.isAgg32 Tryz.sizeOf32 rfl rfl) ⟨_, he_18⟩) (List.sublist_append_left [cb qb qa qc ql qp_134 qs_135, rC x1.a0 x1.c0 mm.s, rS x1.a1 x1.c1 mm.r, rS x1.a2 x1.c2 mm.w] [mb b_7 x1 mm, Res.row (.slice a_2 0 0) 113 2 0 (([] : List Cell).flatMap encC), mb b_1 x1 mm]) ?_
        exact ⟨qp_134, qs_135, x1, mm, (by omega), (hkmm.mono (by omega) (by omega)), rfl, rfl⟩

theorem D_id09 (qb : Nat) (qa : Option Addr) (qc : Nat) (ql : Str) (qp : Nat) (qs : Int) (hql : ql.length ≤ 1048576) (hqp : qp ≤ ql.length)  :
    Ct Tryz.prog 179 [.pointer (some ⟨qb, 0, none⟩)] [cb qb qa qc ql qp qs] (fun w => seesC w qa qc ql [cb qb qa qc ql qp qs]) (fun v A' => ∃ qp' qs' r0, qp' ≤ ql.length ∧ (-9223372036854775808 ≤ r0 ∧ r0 ≤ 9223372036854775807) ∧ v = .int .i64 r0 ∧ A' = [cb qb qa qc ql qp' qs']) := by
  refine Ct.intro Tryz.func179 rfl Tryz.ntmps179 (Nat.le_of_ble_eq_true rfl) fun w0 hpre => ?_
  have hs_qa : Sees w0 _ _ _ _ := hpre.1
  refine JC.seq ?_
  refine JC.region ?_
  refine JL.pure rfl (PO.assign (v := .int .i64 0) rfl) ?_
  refine JL.nil ?_
  refine JQ.seq ?_
  refine JC.seq ?_
  refine JC.region ?_
  refine JL.pure rfl (PO.move (v := .pointer (some ⟨qb, 0, none⟩)) rfl) ?_
  refine JL.op rfl (JO.buildSlice (ps := [(0, .int .i64 1), (1, .int .i64 2), (2, .int .i64 2), (3, .int .i64 3), (4, .int .i64 3), (5, .int .i64 4), (6, .int .i64 0), (7, .int .i64 (-1))]) (cur := #[.int .i64 1, .int .i64 2, .int .i64 2, .int .i64 3, .int .i64 3, .int .i64 4, .int .i64 0, .int .i64 (-1)]) Tryz.underlying70 Tryz.sizeOf3 Tryz.zeroValue3 rfl (by kernel_rfl) (by decide) (by decide)) ?_
  rintro _ _ ⟨a_1, rfl, rfl⟩
  refine JL.op rfl (JO.call [1, 0] Tryz.call162 rfl (D_pickInt qb qa qc ql qp qs a_1 8 ([1, 2, 2, 3, 3, 4, 0, -1] : List Int) (by omega) (by omega) (by simp) (by simp)) rfl (fun w hw => ⟨hw.seeOut_ hs_qa (hpre.2), hw.apart hs_qa (hpre.2) (by simp)⟩)) ?_
  rintro _ _ ⟨_, ⟨qp_2, qs_3, n_5, fq_4, f_6, rfl, rfl⟩, rfl⟩
  have hbn_5 : -9223372036854775808 ≤ n_5 ∧ n_5 ≤ 9223372036854775807 := by have hx_ := f_6; simp only [List.mem_cons, List.not_mem_nil, or_false] at hx_; omega
  refine JL.pure rfl (PO.assign (v := .int .i64 n_5) rfl) ?_
  refine JL.nil ?_
  refine JQ.seq ?_
  refine JC.ret ?_
  refine Done.one (.inl rfl) rfl (RV.tmp (v := .int .i64 n_5) rfl) (List.Sublist.refl _) ?_
  exact ⟨qp_2, qs_3, n_5, (by omega), (by first | omega | (simp only [List.length_append, List.length_cons, List.length_nil, List.length_take, List.length_drop]; omega)), rfl, rfl⟩

theorem D_l09Ask (pa : Option Addr) (pc : Nat) (p : Str) (hp : p.length ≤ 1048576)  :
    Ct Tryz.prog 175 [.slice pa p.length pc] [] (fun w => Sees w (.slice pa p.length pc) 1 p.length (p.map encB)) (fun v A' => ∃ r0x r0 r1, r0.ok (25) (400) ∧ (-9223372036854775808 ≤ r1 ∧ r1 ≤ 9223372036854775807) ∧ v = .tuple #[mv r0x r0, .int .i64 r1] ∧ A' = mr r0x r0) := by
  refine Ct.intro Tryz.func175 rfl Tryz.ntmps175 (Nat.le_of_ble_eq_true rfl) fun w0 hpre => ?_
  have hs_pa : Sees w0 _ _ _ _ := hpre
  refine JC.seq ?_
  refine JC.region ?_
  refine JL.op rfl (JO.alloc (z := .agg #[.slice none 0 0, .slice none 0 0, .slice none 0 0]) (cs := [.slice none 0 0, .slice none 0 0, .slice none 0 0]) Tryz.zeroValue32 rfl) ?_
  rintro _ _ ⟨b_1, rfl, rfl⟩
  refine JL.pure rfl (PO.assign (v := .int .i64 0) rfl) ?_
  refine JL.nil ?_
  refine JQ.seq ?_
  refine JC.seq ?_
  refine JC.region ?_
  refine JL.pure rfl (PO.move (v := .slice pa p.length pc) rfl) ?_
  refine JL.op rfl (JO.call [] Tryz.call157 rfl (D_new pa pc p (by omega)) rfl (fun w hw => hw.seeOut_ hs_pa (fun _ _ => List.not_mem_nil))) ?_
  rintro _ _ ⟨_, ⟨c_2, qs_3, -, rfl, rfl⟩, rfl⟩
  refine JL.pure rfl (PO.assign (v := .pointer (some ⟨c_2, 0, none⟩)) rfl) ?_
  refine JL.nil ?_
  refine JQ.seq ?_
  refine JC.seq ?_
  refine JC.region ?_
  refine JL.pure rfl (PO.move (v := .pointer (some ⟨c_2, 0, none⟩)) rfl) ?_
  refine JL.op rfl (JO.call [0] Tryz.call178 rfl (D_mach09 c_2 pa pc p 0 qs_3 (by omega) (by omega)) rfl (fun w hw => ⟨hw.seeOut_ hs_pa (fun _ _ => List.not_mem_nil), hw.apart hs_pa (fun _ _ => List.not_mem_nil) (by simp)⟩)) ?_
  rintro _ _ ⟨_, ⟨qp_5, qs_6, x_8, m_9, fq_7, k_10, rfl, rfl⟩, rfl⟩
  refine JL.pure rfl (PO.move (v := .pointer (some ⟨c_2, 0, none⟩)) rfl) ?_
  refine JL.op rfl (JO.call [0] Tryz.call179 rfl (D_id09 c_2 pa pc p qp_5 qs_6 (by omega) (by omega)) rfl (fun w hw => ⟨hw.seeOut_ hs_pa (fun _ _ => List.not_mem_nil), hw.apart hs_pa (fun _ _ => List.not_mem_nil) (by simp)⟩)) ?_
  rintro _ _ ⟨_, ⟨qp_12, qs_13, n_15, fq_14, f_16, rfl, rfl⟩, rfl⟩
  refine JL.op rfl (JO.store 4 (vs := [.slice x_8.a0 m_9.s.length x_8.c0, .slice x_8.a1 m_9.r.length x_8.c1, .slice x_8.a2 m_9.w.length x_8.c2]) (cs' := [.slice x_8.a0 m_9.s.length x_8.c0, .slice x_8.a1 m_9.r.length x_8.c1, .slice x_8.a2 m_9.w.length x_8.c2]) rfl rfl rfl rfl Tryz.sizeOf32 rfl rfl (Nat.le_of_ble_eq_true rfl) rfl) ?_
  rintro _ _ rfl
  refine JL.pure rfl (PO.assign (v := .int .i64 n_15) rfl) ?_
  refine JL.nil ?_
  refine JQ.seq ?_
  refine JC.ret ?_
  refine JQ.perm (pick_perm [1, 1, 1] (A := [rC x_8.a0 x_8.c0 m_9.s, rS x_8.a1 x_8.c1 m_9.r, rS x_8.a2 x_8.c2 m_9.w]) (F := [cb c_2 pa pc p qp_12 qs_13, mb b_1 x_8 m_9]) rfl).symm ?_
  refine Done.two (.inl rfl) rfl (RV.cell1 (LO.loadK 4 (vs := [.slice x_8.a0 m_9.s.length x_8.c0, .slice x_8.a1 m_9.r.length x_8.c1, .slice x_8.a2 m_9.w.length x_8.c2]) rfl rfl Tryz.isAgg32 Tryz.sizeOf32 rfl rfl) ⟨_, rfl⟩) (RV.tmp (v := .int .i64 n_15) rfl) (List.sublist_append_left [rC x_8.a0 x_8.c0 m_9.s, rS x_8.a1 x_8.c1 m_9.r, rS x_8.a2 x_8.c2 m_9.w] [cb c_2 pa pc p qp_12 qs_13, mb b_1 x_8 m_9]) ?_
  exact ⟨x_8, m_9, n_15, (k_10.mono (by omega) (by omega)), (by first | omega | (simp only [List.length_append, List.length_cons, List.length_nil, List.length_take, List.length_drop]; omega)), rfl, rfl⟩

theorem D_dSpawnProc (pa : Option Addr) (pc : Nat) (p : Str) (hp : p.length ≤ 1048576)  :
    Ct Tryz.prog 65 [.slice pa p.length pc] [] (fun w => Sees w (.slice pa p.length pc) 1 p.length (p.map encB)) (fun v A' => ∃ r0x r0 r1, r0.ok (25) (400) ∧ (-9223372036854775808 ≤ r1 ∧ r1 ≤ 9223372036854775807) ∧ v = .tuple #[mv r0x r0, .int .i64 r1] ∧ A' = mr r0x r0) := by
  refine Ct.intro Tryz.func65 rfl Tryz.ntmps65 (Nat.le_of_ble_eq_true rfl) fun w0 hpre => ?_
  have hs_pa : Sees w0 _ _ _ _ := hpre
  refine JC.seq ?_
  refine JC.region ?_
  refine JL.op rfl (JO.alloc (z := .agg #[.slice none 0 0, .slice none 0 0, .slice none 0 0]) (cs := [.slice none 0 0, .slice none 0 0, .slice none 0 0]) Tryz.zeroValue32 rfl) ?_
  rintro _ _ ⟨b_1, rfl, rfl⟩
  refine JL.pure rfl (PO.assign (v := .int .i64 0) rfl) ?_
  refine JL.nil ?_
  refine JQ.seq ?_
  refine JC.seq ?_
  refine JC.region ?_
  refine JL.pure rfl (PO.move (v := .slice pa p.length pc) rfl) ?_
  refine JL.op rfl (JO.call [] Tryz.call175 rfl (D_l09Ask pa pc p (by omega)) rfl (fun w hw => hw.seeOut_ hs_pa (fun _ _ => List.not_mem_nil))) ?_
  rintro _ _ ⟨_, ⟨x_2, m_3, n_5, k_4, f_6, rfl, rfl⟩, rfl⟩
  refine JL.pure rfl (PO.extract (v := mv x_2 m_3) rfl rfl) ?_
  refine JL.pure rfl (PO.extract (v := .int .i64 n_5) rfl rfl) ?_
  refine JL.op rfl (JO.store 3 (vs := [.slice x_2.a0 m_3.s.length x_2.c0, .slice x_2.a1 m_3.r.length x_2.c1, .slice x_2.a2 m_3.w.length x_2.c2]) (cs' := [.slice x_2.a0 m_3.s.length x_2.c0, .slice x_2.a1 m_3.r.length x_2.c1, .slice x_2.a2 m_3.w.length x_2.c2]) rfl rfl rfl rfl Tryz.sizeOf32 rfl rfl (Nat.le_of_ble_eq_true rfl) rfl) ?_
  rintro _ _ rfl
  refine JL.pure rfl (PO.assign (v := .int .i64 n_5) rfl) ?_
  refine JL.nil ?_
  refine JQ.seq ?_
  refine JC.ret ?_
  refine Done.two (.inl rfl) rfl (RV.cell1 (LO.loadK 3 (vs := [.slice x_2.a0 m_3.s.length x_2.c0, .slice x_2.a1 m_3.r.length x_2.c1, .slice x_2.a2 m_3.w.length x_2.c2]) rfl rfl Tryz.isAgg32 Tryz.sizeOf32 rfl rfl) ⟨_, rfl⟩) (RV.tmp (v := .int .i64 n_5) rfl) (List.sublist_append_left [rC x_2.a0 x_2.c0 m_3.s, rS x_2.a1 x_2.c1 m_3.r, rS x_2.a2 x_2.c2 m_3.w] [mb b_1 x_2 m_3]) ?_
  exact ⟨x_2, m_3, n_5, (k_4.mono (by omega) (by omega)), (by first | omega | (simp only [List.length_append, List.length_cons, List.length_nil, List.length_take, List.length_drop]; omega)), rfl, rfl⟩

theorem D_dKidsOf (pa : Option Addr) (pc : Nat) (p : Str) (hp : p.length ≤ 1048576)  :
    Ct Tryz.prog 74 [.slice pa p.length pc] [] (fun w => Sees w (.slice pa p.length pc) 1 p.length (p.map encB)) (fun v A' => ∃ r0x r0 r1, r0.ok (25) (400) ∧ (-9223372036854775808 ≤ r1 ∧ r1 ≤ 9223372036854775807) ∧ v = .tuple #[mv r0x r0, .int .i64 r1] ∧ A' = mr r0x r0) := by
  refine Ct.intro Tryz.func74 rfl Tryz.ntmps74 (Nat.le_of_ble_eq_true rfl) fun w0 hpre => ?_
  have hs_pa : Sees w0 _ _ _ _ := hpre
  refine JC.seq ?_
  refine JC.region ?_
  refine JL.op rfl (JO.alloc (z := .agg #[.slice none 0 0, .slice none 0 0, .slice none 0 0]) (cs := [.slice none 0 0, .slice none 0 0, .slice none 0 0]) Tryz.zeroValue32 rfl) ?_
  rintro _ _ ⟨b_1, rfl, rfl⟩
  refine JL.pure rfl (PO.assign (v := .int .i64 0) rfl) ?_
  refine JL.nil ?_
  refine JQ.seq ?_
  refine JC.seq ?_
  refine JC.region ?_
  refine JL.pure rfl (PO.move (v := .slice pa p.length pc) rfl) ?_
  refine JL.op rfl (JO.call [] Tryz.call175 rfl (D_l09Ask pa pc p (by omega)) rfl (fun w hw => hw.seeOut_ hs_pa (fun _ _ => List.not_mem_nil))) ?_
  rintro _ _ ⟨_, ⟨x_2, m_3, n_5, k_4, f_6, rfl, rfl⟩, rfl⟩
  refine JL.pure rfl (PO.extract (v := mv x_2 m_3) rfl rfl) ?_
  refine JL.pure rfl (PO.extract (v := .int .i64 n_5) rfl rfl) ?_
  refine JL.op rfl (JO.store 3 (vs := [.slice x_2.a0 m_3.s.length x_2.c0, .slice x_2.a1 m_3.r.length x_2.c1, .slice x_2.a2 m_3.w.length x_2.c2]) (cs' := [.slice x_2.a0 m_3.s.length x_2.c0, .slice x_2.a1 m_3.r.length x_2.c1, .slice x_2.a2 m_3.w.length x_2.c2]) rfl rfl rfl rfl Tryz.sizeOf32 rfl rfl (Nat.le_of_ble_eq_true rfl) rfl) ?_
  rintro _ _ rfl
  refine JL.pure rfl (PO.assign (v := .int .i64 n_5) rfl) ?_
  refine JL.nil ?_
  refine JQ.seq ?_
  refine JC.ret ?_
  refine Done.two (.inl rfl) rfl (RV.cell1 (LO.loadK 3 (vs := [.slice x_2.a0 m_3.s.length x_2.c0, .slice x_2.a1 m_3.r.length x_2.c1, .slice x_2.a2 m_3.w.length x_2.c2]) rfl rfl Tryz.isAgg32 Tryz.sizeOf32 rfl rfl) ⟨_, rfl⟩) (RV.tmp (v := .int .i64 n_5) rfl) (List.sublist_append_left [rC x_2.a0 x_2.c0 m_3.s, rS x_2.a1 x_2.c1 m_3.r, rS x_2.a2 x_2.c2 m_3.w] [mb b_1 x_2 m_3]) ?_
  exact ⟨x_2, m_3, n_5, (k_4.mono (by omega) (by omega)), (by first | omega | (simp only [List.length_append, List.length_cons, List.length_nil, List.length_take, List.length_drop]; omega)), rfl, rfl⟩

theorem D_dEndProc (pa : Option Addr) (pc : Nat) (p : Str) (hp : p.length ≤ 1048576)  :
    Ct Tryz.prog 68 [.slice pa p.length pc] [] (fun w => Sees w (.slice pa p.length pc) 1 p.length (p.map encB)) (fun v A' => ∃ r0x r0 r1 r2, r0.ok (25) (400) ∧ (-9223372036854775808 ≤ r1 ∧ r1 ≤ 9223372036854775807) ∧ (-9223372036854775808 ≤ r2 ∧ r2 ≤ 9223372036854775807) ∧ v = .tuple #[mv r0x r0, .int .i64 r1, .int .i64 r2] ∧ A' = mr r0x r0) := by
  refine Ct.intro Tryz.func68 rfl Tryz.ntmps68 (Nat.le_of_ble_eq_true rfl) fun w0 hpre => ?_
  have hs_pa : Sees w0 _ _ _ _ := hpre
  refine JC.seq ?_
  refine JC.region ?_
  refine JL.op rfl (JO.alloc (z := .agg #[.slice none 0 0, .slice none 0 0, .slice none 0 0]) (cs := [.slice none 0 0, .slice none 0 0, .slice none 0 0]) Tryz.zeroValue32 rfl) ?_
  rintro _ _ ⟨b_1, rfl, rfl⟩
  refine JL.pure rfl (PO.assign (v := .int .i64 0) rfl) ?_
  refine JL.pure rfl (PO.assign (v := .int .i64 0) rfl) ?_
  refine JL.nil ?_
  refine JQ.seq ?_
  refine JC.seq ?_
  refine JC.region ?_
  refine JL.pure rfl (PO.move (v := .slice pa p.length pc) rfl) ?_
  refine JL.op rfl (JO.call [] Tryz.call157 rfl (D_new pa pc p (by omega)) rfl (fun w hw => hw.seeOut_ hs_pa (fun _ _ => List.not_mem_nil))) ?_
  rintro _ _ ⟨_, ⟨c_2, qs_3, -, rfl, rfl⟩, rfl⟩
  refine JL.pure rfl (PO.assign (v := .pointer (some ⟨c_2, 0, none⟩)) rfl) ?_
  refine JL.nil ?_
  refine JQ.seq ?_
  refine JC.seq ?_
  refine JC.region ?_
  refine JL.pure rfl (PO.move (v := .pointer (some ⟨c_2, 0, none⟩)) rfl) ?_
  refine JL.op rfl (JO.call [0] Tryz.call178 rfl (D_mach09 c_2 pa pc p 0 qs_3 (by omega) (by omega)) rfl (fun w hw => ⟨hw.seeOut_ hs_pa (fun _ _ => List.not_mem_nil), hw.apart hs_pa (fun _ _ => List.not_mem_nil) (by simp)⟩)) ?_
  rintro _ _ ⟨_, ⟨qp_5, qs_6, x_8, m_9, fq_7, k_10, rfl, rfl⟩, rfl⟩
  refine JL.pure rfl (PO.move (v := .pointer (some ⟨c_2, 0, none⟩)) rfl) ?_
  refine JL.op rfl (JO.call [0] Tryz.call179 rfl (D_id09 c_2 pa pc p qp_5 qs_6 (by omega) (by omega)) rfl (fun w hw => ⟨hw.seeOut_ hs_pa (fun _ _ => List.not_mem_nil), hw.apart hs_pa (fun _ _ => List.not_mem_nil) (by simp)⟩)) ?_
  rintro _ _ ⟨_, ⟨qp_12, qs_13, n_15, fq_14, f_16, rfl, rfl⟩, rfl⟩
  refine JL.pure rfl (PO.move (v := .pointer (some ⟨c_2, 0, none⟩)) rfl) ?_
  refine JL.op rfl (JO.buildSlice (ps := [(0, .int .i64 0), (1, .int .i64 1), (2, .int .i64 5), (3, .int .i64 100), (4, .int .i64 101), (5, .int .i64 (-1))]) (cur := #[.int .i64 0, .int .i64 1, .int .i64 5, .int .i64 100, .int .i64 101, .int .i64 (-1)]) Tryz.underlying70 Tryz.sizeOf3 Tryz.zeroValue3 rfl (by kernel_rfl) (by decide) (by decide)) ?_
  rintro _ _ ⟨a_18, rfl, rfl⟩
  refine JL.op rfl (JO.call [1, 0] Tryz.call162 rfl (D_pickInt c_2 pa pc p qp_12 qs_13 a_18 6 ([0, 1, 5, 100, 101, -1] : List Int) (by omega) (by omega) (by simp) (by simp)) rfl (fun w hw => ⟨hw.seeOut_ hs_pa (fun _ _ => List.not_mem_nil), hw.apart hs_pa (fun _ _ => List.not_mem_nil) (by simp)⟩)) ?_
  rintro _ _ ⟨_, ⟨qp_19, qs_20, n_22, fq_21, f_23, rfl, rfl⟩, rfl⟩
  have hbn_22 : -9223372036854775808 ≤ n_22 ∧ n_22 ≤ 9223372036854775807 := by have hx_ := f_23; simp only [List.mem_cons, List.not_mem_nil, or_false] at hx_; omega
  refine JL.op rfl (JO.store 4 (vs := [.slice x_8.a0 m_9.s.length x_8.c0, .slice x_8.a1 m_9.r.length x_8.c1, .slice x_8.a2 m_9.w.length x_8.c2]) (cs' := [.slice x_8.a0 m_9.s.length x_8.c0, .slice x_8.a1 m_9.r.length x_8.c1, .slice x_8.a2 m_9.w.length x_8.c2]) rfl rfl rfl rfl Tryz.sizeOf32 rfl rfl (Nat.le_of_ble_eq_true rfl) rfl) ?_
  rintro _ _ rfl
  refine JL.pure rfl (PO.assign (v := .int .i64 n_15) rfl) ?_
  refine JL.pure rfl (PO.assign (v := .int .i64 n_22) rfl) ?_
  refine JL.nil ?_
  refine JQ.seq ?_
  refine JC.ret ?_
  refine JQ.perm (pick_perm [1, 1, 1] (A := [rC x_8.a0 x_8.c0 m_9.s, rS x_8.a1 x_8.c1 m_9.r, rS x_8.a2 x_8.c2 m_9.w]) (F := [cb c_2 pa pc p qp_19 qs_20, mb b_1 x_8 m_9]) rfl).symm ?_
  refine Done.three (.inl rfl) rfl (RV.cell1 (LO.loadK 4 (vs := [.slice x_8.a0 m_9.s.length x_8.c0, .slice x_8.a1 m_9.r.length x_8.c1, .slice x_8.a2 m_9.w.length x_8.c2]) rfl rfl Tryz.isAgg32 Tryz.sizeOf32 rfl rfl) ⟨_, rfl⟩) (RV.tmp (v := .int .i64 n_15) rfl) (RV.tmp (v := .int .i64 n_22) rfl) (List.sublist_append_left [rC x_8.a0 x_8.c0 m_9.s, rS x_8.a1 x_8.c1 m_9.r, rS x_8.a2 x_8.c2 m_9.w] [cb c_2 pa pc p qp_19 qs_20, mb b_1 x_8 m_9]) ?_
  exact ⟨x_8, m_9, n_15, n_22, (k_10.mono (by omega) (by omega)), (by first | omega | (simp only [List.length_append, List.length_cons, List.length_nil, List.length_take, List.length_drop]; omega)), (by first | omega | (simp only [List.length_append, List.length_cons, List.length_nil, List.length_take, List.length_drop]; omega)), rfl, rfl⟩

theorem D_dReapProc (pa : Option Addr) (pc : Nat) (p : Str) (hp : p.length ≤ 1048576)  :
    Ct Tryz.prog 71 [.slice pa p.length pc] [] (fun w => Sees w (.slice pa p.length pc) 1 p.length (p.map encB)) (fun v A' => ∃ r0x r0 r1 r2, r0.ok (25) (400) ∧ (-9223372036854775808 ≤ r1 ∧ r1 ≤ 9223372036854775807) ∧ (-9223372036854775808 ≤ r2 ∧ r2 ≤ 9223372036854775807) ∧ v = .tuple #[mv r0x r0, .int .i64 r1, .int .i64 r2] ∧ A' = mr r0x r0) := by
  refine Ct.intro Tryz.func71 rfl Tryz.ntmps71 (Nat.le_of_ble_eq_true rfl) fun w0 hpre => ?_
  have hs_pa : Sees w0 _ _ _ _ := hpre
  refine JC.seq ?_
  refine JC.region ?_
  refine JL.op rfl (JO.alloc (z := .agg #[.slice none 0 0, .slice none 0 0, .slice none 0 0]) (cs := [.slice none 0 0, .slice none 0 0, .slice none 0 0]) Tryz.zeroValue32 rfl) ?_
  rintro _ _ ⟨b_1, rfl, rfl⟩
  refine JL.pure rfl (PO.assign (v := .int .i64 0) rfl) ?_
  refine JL.pure rfl (PO.assign (v := .int .i64 0) rfl) ?_
  refine JL.nil ?_
  refine JQ.seq ?_
  refine JC.seq ?_
  refine JC.region ?_
  refine JL.pure rfl (PO.move (v := .slice pa p.length pc) rfl) ?_
  refine JL.op rfl (JO.call [] Tryz.call157 rfl (D_new pa pc p (by omega)) rfl (fun w hw => hw.seeOut_ hs_pa (fun _ _ => List.not_mem_nil))) ?_
  rintro _ _ ⟨_, ⟨c_2, qs_3, -, rfl, rfl⟩, rfl⟩
  refine JL.pure rfl (PO.assign (v := .pointer (some ⟨c_2, 0, none⟩)) rfl) ?_
  refine JL.nil ?_
  refine JQ.seq ?_
  refine JC.seq ?_
  refine JC.region ?_
  refine JL.pure rfl (PO.move (v := .pointer (some ⟨c_2, 0, none⟩)) rfl) ?_
  refine JL.op rfl (JO.call [0] Tryz.call178 rfl (D_mach09 c_2 pa pc p 0 qs_3 (by omega) (by omega)) rfl (fun w hw => ⟨hw.seeOut_ hs_pa (fun _ _ => List.not_mem_nil), hw.apart hs_pa (fun _ _ => List.not_mem_nil) (by simp)⟩)) ?_
  rintro _ _ ⟨_, ⟨qp_5, qs_6, x_8, m_9, fq_7, k_10, rfl, rfl⟩, rfl⟩
  refine JL.pure rfl (PO.move (v := .pointer (some ⟨c_2, 0, none⟩)) rfl) ?_
  refine JL.op rfl (JO.call [0] Tryz.call179 rfl (D_id09 c_2 pa pc p qp_5 qs_6 (by omega) (by omega)) rfl (fun w hw => ⟨hw.seeOut_ hs_pa (fun _ _ => List.not_mem_nil), hw.apart hs_pa (fun _ _ => List.not_mem_nil) (by simp)⟩)) ?_
  rintro _ _ ⟨_, ⟨qp_12, qs_13, n_15, fq_14, f_16, rfl, rfl⟩, rfl⟩
  refine JL.pure rfl (PO.move (v := .pointer (some ⟨c_2, 0, none⟩)) rfl) ?_
  refine JL.op rfl (JO.call [0] Tryz.call179 rfl (D_id09 c_2 pa pc p qp_12 qs_13 (by omega) (by omega)) rfl (fun w hw => ⟨hw.seeOut_ hs_pa (fun _ _ => List.not_mem_nil), hw.apart hs_pa (fun _ _ => List.not_mem_nil) (by simp)⟩)) ?_
  rintro _ _ ⟨_, ⟨qp_18, qs_19, n_21, fq_20, f_22, rfl, rfl⟩, rfl⟩
  refine JL.op rfl (JO.store 4 (vs := [.slice x_8.a0 m_9.s.length x_8.c0, .slice x_8.a1 m_9.r.length x_8.c1, .slice x_8.a2 m_9.w.length x_8.c2]) (cs' := [.slice x_8.a0 m_9.s.length x_8.c0, .slice x_8.a1 m_9.r.length x_8.c1, .slice x_8.a2 m_9.w.length x_8.c2]) rfl rfl rfl rfl Tryz.sizeOf32 rfl rfl (Nat.le_of_ble_eq_true rfl) rfl) ?_
  rintro _ _ rfl
  refine JL.pure rfl (PO.assign (v := .int .i64 n_15) rfl) ?_
  refine JL.pure rfl (PO.assign (v := .int .i64 n_21) rfl) ?_
  refine JL.nil ?_
  refine JQ.seq ?_
  refine JC.ret ?_
  refine JQ.perm (pick_perm [1, 1, 1] (A := [rC x_8.a0 x_8.c0 m_9.s, rS x_8.a1 x_8.c1 m_9.r, rS x_8.a2 x_8.c2 m_9.w]) (F := [cb c_2 pa pc p qp_18 qs_19, mb b_1 x_8 m_9]) rfl).symm ?_
  refine Done.three (.inl rfl) rfl (RV.cell1 (LO.loadK 4 (vs := [.slice x_8.a0 m_9.s.length x_8.c0, .slice x_8.a1 m_9.r.length x_8.c1, .slice x_8.a2 m_9.w.length x_8.c2]) rfl rfl Tryz.isAgg32 Tryz.sizeOf32 rfl rfl) ⟨_, rfl⟩) (RV.tmp (v := .int .i64 n_15) rfl) (RV.tmp (v := .int .i64 n_21) rfl) (List.sublist_append_left [rC x_8.a0 x_8.c0 m_9.s, rS x_8.a1 x_8.c1 m_9.r, rS x_8.a2 x_8.c2 m_9.w] [cb c_2 pa pc p qp_18 qs_19, mb b_1 x_8 m_9]) ?_
  exact ⟨x_8, m_9, n_15, n_21, (k_10.mono (by omega) (by omega)), (by first | omega | (simp only [List.length_append, List.length_cons, List.length_nil, List.length_take, List.length_drop]; omega)), (by first | omega | (simp only [List.length_append, List.length_cons, List.length_nil, List.length_take, List.length_drop]; omega)), rfl, rfl⟩

end Go.Proofs.YtenfajgpdhgknaaGreatDoor
