/-
  Drawing machines with names, files, pipes, processes, signals, output (part 26).
-/
import Derived.Test.YtenfajgpdhgknaaGreatDoorS26DRAWNp1
set_option linter.unusedSimpArgs false
set_option linter.unusedVariables false
set_option linter.unnecessarySimpa false
namespace Go.Proofs.YtenfajgpdhgknaaGreatDoor
open Go Go.RowKit
attribute [local irreducible] JL JC JQ JO LO PO JA JX Ct

theorem D_mach09 (qb : Nat) (qa : Option Addr) (qc : Nat) (ql : Str) (qp : Nat) (qs : Int) (hql : ql.length ≤ 1048576) (hqp : qp ≤ ql.length)  :
    Ct Tryz.prog 178 [.pointer (some ⟨qb, 0, none⟩)] [cb qb qa qc ql qp qs] (fun w => seesC w qa qc ql [cb qb qa qc ql qp qs]) (fun v A' => ∃ qp' qs' r0x r0, qp' ≤ ql.length ∧ r0.ok (25) (400) ∧ v = mv r0x r0 ∧ A' = cb qb qa qc ql qp' qs' :: mr r0x r0) := by
  refine Ct.intro Tryz.func178 rfl Tryz.ntmps178 (Nat.le_of_ble_eq_true rfl) fun w0 hpre => ?_
  have hs_qa : Sees w0 _ _ _ _ := hpre.1
  refine JC.seq ?_
  refine JC.region ?_
  refine JL.op rfl (JO.alloc (z := .agg #[.slice none 0 0, .slice none 0 0, .slice none 0 0]) (cs := [.slice none 0 0, .slice none 0 0, .slice none 0 0]) Tryz.zeroValue32 rfl) ?_
  rintro _ _ ⟨b_1, rfl, rfl⟩
  refine JL.nil ?_
  refine JQ.seq ?_
  refine JC.seq ?_
  refine JC.region ?_
  refine JL.op rfl (JO.buildSlice (ps := []) (cur := #[]) Tryz.underlying29 Tryz.sizeOf113 Tryz.zeroValue113 rfl (by kernel_rfl) (by decide) (by decide)) ?_
  rintro _ _ ⟨a_2, rfl, rfl⟩
  refine JL.op rfl (JO.call [] Tryz.call147 rfl (D_machOf a_2 0 ([] : List Cell) (by first | omega | simp) 0 ⟨by simp, fun c hc => by cases hc⟩) rfl (fun w hw => hw.see (i := 0) rfl)) ?_
  rintro _ _ ⟨_, ⟨x_3, m_4, e_6, k_5, rfl, rfl⟩, rfl⟩
  refine JL.op rfl (JO.alloc (z := .agg #[.slice none 0 0, .slice none 0 0, .slice none 0 0]) (cs := [.slice none 0 0, .slice none 0 0, .slice none 0 0]) Tryz.zeroValue32 rfl) ?_
  rintro _ _ ⟨b_7, rfl, rfl⟩
  refine JL.op rfl (JO.store 0 (vs := [.slice x_3.a0 m_4.s.length x_3.c0, .slice x_3.a1 m_4.r.length x_3.c1, .slice x_3.a2 m_4.w.length x_3.c2]) (cs' := [.slice x_3.a0 m_4.s.length x_3.c0, .slice x_3.a1 m_4.r.length x_3.c1, .slice x_3.a2 m_4.w.length x_3.c2]) rfl rfl rfl rfl Tryz.sizeOf32 rfl rfl (Nat.le_of_ble_eq_true rfl) rfl) ?_
  rintro _ _ rfl
  refine JL.nil ?_
  refine JQ.seq ?_
  refine JC.seq ?_
  refine JC.region ?_
  refine JL.ld rfl (LO.loadK 0 (vs := [.slice x_3.a0 m_4.s.length x_3.c0, .slice x_3.a1 m_4.r.length x_3.c1, .slice x_3.a2 m_4.w.length x_3.c2]) rfl rfl Tryz.isAgg32 Tryz.sizeOf32 rfl rfl) ?_
  refine JL.op rfl (JO.call [1, 1, 1] Tryz.call177 rfl (M_spawn x_3 m_4 k_5 (by omega) (by omega) 0 (by omega)) rfl (fun _ _ => trivial)) ?_
  rintro _ _ ⟨_, ⟨x_10, m_11, n_12, n_14, e_8, k_9, f_13, f_15, rfl, rfl⟩, rfl⟩
  refine JL.pure rfl (PO.move (v := .tuple #[mv x_10 m_11, .int .i64 n_12, .int .i64 n_14]) rfl) ?_
  refine JL.pure rfl (PO.extract (v := mv x_10 m_11) rfl rfl) ?_
  refine JL.pure rfl (PO.extract (v := .int .i64 n_12) rfl rfl) ?_
  refine JL.pure rfl (PO.extract (v := .int .i64 n_14) rfl rfl) ?_
  refine JL.op rfl (JO.store 3 (vs := [.slice x_10.a0 m_11.s.length x_10.c0, .slice x_10.a1 m_11.r.length x_10.c1, .slice x_10.a2 m_11.w.length x_10.c2]) (cs' := [.slice x_10.a0 m_11.s.length x_10.c0, .slice x_10.a1 m_11.r.length x_10.c1, .slice x_10.a2 m_11.w.length x_10.c2]) rfl rfl rfl rfl Tryz.sizeOf32 rfl rfl (Nat.le_of_ble_eq_true rfl) rfl) ?_
  rintro _ _ rfl
  refine JL.nil ?_
  refine JQ.seq ?_
  refine JC.seq ?_
  refine JC.seq ?_
  refine JC.region ?_
  refine JL.pure rfl (PO.assign (v := .int .i64 0) rfl) ?_
  refine JL.nil ?_
  refine JQ.seq ?_
  refine JC.block ?_
  refine JC.loop (fun k_ e_ L_ => ∃ i_ : Nat, ∃ p_q : Nat, ∃ s_q : Int, ∃ x1 : MA, ∃ mm : MS, (p_q ≤ ql.length) ∧ (mm.ok (3 + 3 * i_) (4 + 50 * i_)) ∧ (i_ ≤ 7) ∧ e_ 0 = .pointer (some ⟨qb, 0, none⟩) ∧ e_ 2 = .pointer (some ⟨b_1, 0, none⟩) ∧ e_ 3 = .pointer (some ⟨b_7, 0, none⟩) ∧ e_ 4 = .int .i64 ((i_ : Nat) : Int) ∧ L_ = [rC x1.a0 x1.c0 mm.s, rS x1.a1 x1.c1 mm.r, rS x1.a2 x1.c2 mm.w, mb b_7 x1 mm, Res.row (.slice a_2 0 0) 113 2 0 (([] : List Cell).flatMap encC), bk b_1 32 [.slice none 0 0, .slice none 0 0, .slice none 0 0], cb qb qa qc ql p_q s_q] ∧ k_ = 8 - i_) _ ⟨0, qp, qs, x_10, m_11, (by omega), (k_9.mono (by omega) (by omega)), (by omega), rfl, rfl, rfl, rfl, rfl, rfl⟩ ?_
  rintro _ e_16 _ ⟨i_, p_q, s_q, x1, mm, hpq_, hkmm, hi, he_17, he_18, he_19, he_20, rfl, rfl⟩
  refine JC.seq ?_
  refine JC.seq ?_
  refine JC.region ?_
  refine JL.pure rfl (PO.move (v := .int .i64 ((i_ : Nat) : Int)) he_20) ?_
  refine JL.pure rfl (PO.move (v := .pointer (some ⟨qb, 0, none⟩)) he_17) ?_
  refine JL.op rfl (JO.call [6] Tryz.call173 rfl (D_below qb qa qc ql p_q s_q (by omega) (by omega) 7 (by omega)) rfl (fun w hw => ⟨hw.seeOut_ hs_qa (hpre.2), hw.apart hs_qa (hpre.2) (by simp)⟩)) ?_
  rintro _ _ ⟨_, ⟨qp_21, qs_22, n_24, fq_23, f_25, rfl, rfl⟩, rfl⟩
  refine JL.pure rfl (PO.lss rfl rfl) ?_
  refine JL.nil ?_
  refine JQ.seq ?_
  by_cases h_27 : ((i_ : Nat) : Int) < ((n_24 : Nat) : Int)
  · skip
    refine JC.condT (congrArg Value.bool (decide_eq_true h_27)) ?_
    refine JC.skip ?_
    refine JQ.seq ?_
    refine JC.seq ?_
    refine JC.block ?_
    refine JC.seq ?_
    refine JC.region ?_
    refine JL.pure rfl (PO.move (v := .pointer (some ⟨qb, 0, none⟩)) he_17) ?_
    refine JL.op rfl (JO.call [0] Tryz.call173 rfl (D_below qb qa qc ql qp_21 qs_22 (by omega) (by omega) 4 (by omega)) rfl (fun w hw => ⟨hw.seeOut_ hs_qa (hpre.2), hw.apart hs_qa (hpre.2) (by simp)⟩)) ?_
    rintro _ _ ⟨_, ⟨qp_28, qs_29, n_31, fq_30, f_32, rfl, rfl⟩, rfl⟩
    refine JL.nil ?_
    refine JQ.seq ?_
    refine JC.block ?_
    refine JC.seq ?_
    refine JC.region ?_
    refine JL.pure rfl (PO.eqlI rfl rfl) ?_
    refine JL.pure rfl (PO.assign (v := .bool (decide (((n_31 : Nat) : Int) = 0))) rfl) ?_
    refine JL.nil ?_
    refine JQ.seq ?_
    by_cases h_34 : ((n_31 : Nat) : Int) = 0
    · skip
      refine JC.condT (congrArg Value.bool (decide_eq_true h_34)) ?_
      refine JC.regionA [mb b_7 x1 mm] 10 mixed (by simp) ?_
      refine JA.take 0 rfl (by kernel_rfl) (NP.bl (NP.bl (NP.th (NP.th (NP.bl (NP.th NP.body)))))) (by kernel_rfl) (by kernel_rfl) (by kernel_rfl) rfl (LO.loadK 0 (vs := [.slice x1.a0 mm.s.length x1.c0, .slice x1.a1 mm.r.length x1.c1, .slice x1.a2 mm.w.length x1.c2]) rfl he_19 Tryz.isAgg32 Tryz.sizeOf32 rfl rfl) ?_
      refine JA.takeP 1 rfl (by kernel_rfl) (NP.bl (NP.bl (NP.th (NP.th (NP.bl (NP.th NP.body)))))) (by kernel_rfl) (by kernel_rfl) rfl (PO.move (v := .pointer (some ⟨qb, 0, none⟩)) he_17) ?_
      refine JA.takeP 4 rfl (by kernel_rfl) (NP.bl (NP.bl (NP.th (NP.th (NP.bl (NP.th NP.body)))))) (by kernel_rfl) (by kernel_rfl) rfl (PO.move (v := .pointer (some ⟨qb, 0, none⟩)) he_17) ?_
      refine JA.one (i := 2) (by kernel_rfl) ?_
      refine JX.op rfl rfl (JO.call [0] Tryz.call173 rfl (D_below qb qa qc ql qp_28 qs_29 (by omega) (by omega) 4 (by omega)) rfl (fun w hw => ⟨hw.seeOut_ hs_qa (hpre.2), hw.apart hs_qa (hpre.2) (by simp)⟩)) ?_
      rintro _ _ ⟨_, ⟨qp_47, qs_48, n_50, fq_49, f_51, rfl, rfl⟩, rfl⟩
      refine ⟨(by simp), ?_⟩
      refine JA.takeP 3 rfl (by kernel_rfl) (NP.bl (NP.bl (NP.th (NP.th (NP.bl (NP.th NP.body)))))) (by kernel_rfl) (by kernel_rfl) rfl (PO.add (c := ((1 + n_50 : Nat) : Int)) rfl rfl (wr (by omega))) ?_
      refine JA.one (i := 5) (by kernel_rfl) ?_
      refine JX.op rfl rfl (JO.call [0] Tryz.call173 rfl (D_below qb qa qc ql qp_47 qs_48 (by omega) (by omega) 9 (by omega)) rfl (fun w hw => ⟨hw.seeOut_ hs_qa (hpre.2), hw.apart hs_qa (hpre.2) (by simp)⟩)) ?_
      rintro _ _ ⟨_, ⟨qp_59, qs_60, n_62, fq_61, f_63, rfl, rfl⟩, rfl⟩
      refine ⟨(by simp), ?_⟩
      refine JA.one (i := 6) (by kernel_rfl) ?_
      refine JX.op rfl rfl (JO.call [1, 1, 1] Tryz.call181 rfl (M_end x1 mm hkmm (by omega) (by omega) ((1 + n_50 : Nat) : Int) ((n_62 : Nat) : Int) (by omega) (by omega)) rfl (fun _ _ => trivial)) ?_
      rintro _ _ ⟨_, ⟨x_73, m_74, n_75, e_71, k_72, f_76, rfl, rfl⟩, rfl⟩
      refine ⟨(by simp), ?_⟩
      refine JA.takeP 7 rfl (by kernel_rfl) (NP.bl (NP.bl (NP.th (NP.th (NP.bl (NP.th NP.body)))))) (by kernel_rfl) (by kernel_rfl) rfl (PO.move (v := .tuple #[mv x_73 m_74, .int .i64 n_75]) rfl) ?_
      refine JA.takeP 8 rfl (by kernel_rfl) (NP.bl (NP.bl (NP.th (NP.th (NP.bl (NP.th NP.body)))))) (by kernel_rfl) (by kernel_rfl) rfl (PO.extract (v := mv x_73 m_74) rfl rfl) ?_
      refine JA.takeP 9 rfl (by kernel_rfl) (NP.bl (NP.bl (NP.th (NP.th (NP.bl (NP.th NP.body)))))) (by kernel_rfl) (by kernel_rfl) rfl (PO.extract (v := .int .i64 n_75) rfl rfl) ?_
      refine JA.one (i := 10) (by kernel_rfl) ?_
      refine JX.last rfl rfl (by decide) (by kernel_rfl) (JO.store 4 (vs := [.slice x_73.a0 m_74.s.length x_73.c0, .slice x_73.a1 m_74.r.length x_73.c1, .slice x_73.a2 m_74.w.length x_73.c2]) (cs' := [.slice x_73.a0 m_74.s.length x_73.c0, .slice x_73.a1 m_74.r.length x_73.c1, .slice x_73.a2 m_74.w.length x_73.c2]) rfl he_19 rfl rfl Tryz.sizeOf32 rfl rfl (Nat.le_of_ble_eq_true rfl) rfl) ?_
      rintro _ _ rfl
      refine JQ.blockN ?_
      refine JQ.blockN ?_
      refine JQ.seq ?_
      refine JC.region ?_
      refine JL.pure rfl (PO.move (v := .int .i64 ((i_ : Nat) : Int)) he_20) ?_
      refine JL.pure rfl (PO.add (c := ((i_ + 1 : Nat) : Int)) rfl rfl (wr (by omega))) ?_
      refine JL.pure rfl (PO.assign (v := .int .i64 ((i_ + 1 : Nat) : Int)) rfl) ?_
      refine JL.nil ?_
      refine JQ.pick [0, 0, 0, 1, 1, 1, 0] (A := [rC x_73.a0 x_73.c0 m_74.s, rS x_73.a1 x_73.c1 m_74.r, rS x_73.a2 x_73.c2 m_74.w, mb b_7 x_73 m_74, Res.row (.slice a_2 0 0) 113 2 0 (([] : List Cell).flatMap encC), bk b_1 32 [.slice none 0 0, .slice none 0 0, .slice none 0 0], cb qb qa qc ql qp_59 qs_60]) rfl ?_
      refine JQ.again (8 - (i_ + 1)) (by omega) ⟨(i_ + 1), qp_59, qs_60, x_73, m_74, (by omega), (k_72.mono (by omega) (by omega)), (by omega), he_17, he_18, he_19, rfl, rfl, rfl⟩
    · skip
      refine JC.condF (congrArg Value.bool (decide_eq_false h_34)) ?_
      refine JC.seq ?_
      refine JC.region ?_
      refine JL.pure rfl (PO.eqlI rfl rfl) ?_
      refine JL.pure rfl (PO.assign (v := .bool (decide (((n_31 : Nat) : Int) = 1))) rfl) ?_
      refine JL.nil ?_
      refine JQ.seq ?_
      by_cases h_77 : ((n_31 : Nat) : Int) = 1
      · skip
        refine JC.condT (congrArg Value.bool (decide_eq_true h_77)) ?_
        refine JC.regionA [mb b_7 x1 mm] 9 mixed (by simp) ?_
        refine JA.take 0 rfl (by kernel_rfl) (NP.bl (NP.bl (NP.th (NP.th (NP.bl (NP.th NP.body)))))) (by kernel_rfl) (by kernel_rfl) (by kernel_rfl) rfl (LO.loadK 0 (vs := [.slice x1.a0 mm.s.length x1.c0, .slice x1.a1 mm.r.length x1.c1, .slice x1.a2 mm.w.length x1.c2]) rfl he_19 Tryz.isAgg32 Tryz.sizeOf32 rfl rfl) ?_
        refine JA.takeP 1 rfl (by kernel_rfl) (NP.bl (NP.bl (NP.th (NP.th (NP.bl (NP.th NP.body)))))) (by kernel_rfl) (by kernel_rfl) rfl (PO.move (v := .pointer (some ⟨qb, 0, none⟩)) he_17) ?_
        refine JA.one (i := 2) (by kernel_rfl) ?_
        refine JX.op rfl rfl (JO.call [0] Tryz.call173 rfl (D_below qb qa qc ql qp_28 qs_29 (by omega) (by omega) 4 (by omega)) rfl (fun w hw => ⟨hw.seeOut_ hs_qa (hpre.2), hw.apart hs_qa (hpre.2) (by simp)⟩)) ?_
        rintro _ _ ⟨_, ⟨qp_84, qs_85, n_87, fq_86, f_88, rfl, rfl⟩, rfl⟩
        refine ⟨(by simp), ?_⟩
        refine JA.takeP 3 rfl (by kernel_rfl) (NP.bl (NP.bl (NP.th (NP.th (NP.bl (NP.th NP.body)))))) (by kernel_rfl) (by kernel_rfl) rfl (PO.add (c := ((1 + n_87 : Nat) : Int)) rfl rfl (wr (by omega))) ?_
        refine JA.one (i := 4) (by kernel_rfl) ?_
        refine JX.op rfl rfl (JO.call [1, 1, 1] Tryz.call183 rfl (M_reap x1 mm hkmm (by omega) (by omega) 1 ((1 + n_87 : Nat) : Int) (by omega) (by omega)) rfl (fun _ _ => trivial)) ?_
        rintro _ _ ⟨_, ⟨x_100, m_101, n_102, n_104, e_98, k_99, f_103, f_105, rfl, rfl⟩, rfl⟩
        refine ⟨(by simp), ?_⟩
        refine JA.takeP 5 rfl (by kernel_rfl) (NP.bl (NP.bl (NP.th (NP.th (NP.bl (NP.th NP.body)))))) (by kernel_rfl) (by kernel_rfl) rfl (PO.move (v := .tuple #[mv x_100 m_101, .int .i64 n_102, .int .i64 n_104]) rfl) ?_
        refine JA.takeP 6 rfl (by kernel_rfl) (NP.bl (NP.bl (NP.th (NP.th (NP.bl (NP.th NP.body)))))) (by kernel_rfl) (by kernel_rfl) rfl (PO.extract (v := mv x_100 m_101) rfl rfl) ?_
        refine JA.takeP 7 rfl (by kernel_rfl) (NP.bl (NP.bl (NP.th (NP.th (NP.bl (NP.th NP.body)))))) (by kernel_rfl) (by kernel_rfl) rfl (PO.extract (v := .int .i64 n_102) rfl rfl) ?_
        refine JA.takeP 8 rfl (by kernel_rfl) (NP.bl (NP.bl (NP.th (NP.th (NP.bl (NP.th NP.body)))))) (by kernel_rfl) (by kernel_rfl) rfl (PO.extract (v := .int .i64 n_104) rfl rfl) ?_
        refine JA.one (i := 9) (by kernel_rfl) ?_
        refine JX.last rfl rfl (by decide) (by kernel_rfl) (JO.store 4 (vs := [.slice x_100.a0 m_101.s.length x_100.c0, .slice x_100.a1 m_101.r.length x_100.c1, .slice x_100.a2 m_101.w.length x_100.c2]) (cs' := [.slice x_100.a0 m_101.s.length x_100.c0, .slice x_100.a1 m_101.r.length x_100.c1, .slice x_100.a2 m_101.w.length x_100.c2]) rfl he_19 rfl rfl Tryz.sizeOf32 rfl rfl (Nat.le_of_ble_eq_true rfl) rfl) ?_
        rintro _ _ rfl
        refine JQ.blockN ?_
        refine JQ.blockN ?_
        refine JQ.seq ?_
        refine JC.region ?_
        refine JL.pure rfl (PO.move (v := .int .i64 ((i_ : Nat) : Int)) he_20) ?_
        refine JL.pure rfl (PO.add (c := ((i_ + 1 : Nat) : Int)) rfl rfl (wr (by omega))) ?_
        refine JL.pure rfl (PO.assign (v := .int .i64 ((i_ + 1 : Nat) : Int)) rfl) ?_
        refine JL.nil ?_
        refine JQ.pick [0, 0, 0, 1, 1, 1, 0] (A := [rC x_100.a0 x_100.c0 m_101.s, rS x_100.a1 x_100.c1 m_101.r, rS x_100.a2 x_100.c2 m_101.w, mb b_7 x_100 m_101, Res.row (.slice a_2 0 0) 113 2 0 (([] : List Cell).flatMap encC), bk b_1 32 [.slice none 0 0, .slice none 0 0, .slice none 0 0], cb qb qa qc ql qp_84 qs_85]) rfl ?_
        refine JQ.again (8 - (i_ + 1)) (by omega) ⟨(i_ + 1), qp_84, qs_85, x_100, m_101, (by omega), (k_99.mono (by omega) (by omega)), (by omega), he_17, he_18, he_19, rfl, rfl, rfl⟩
      · skip
        refine JC.condF (congrArg Value.bool (decide_eq_false h_77)) ?_
        refine JC.regionA [mb b_7 x1 mm] 9 mixed (by simp) ?_
        refine JA.take 0 rfl (by kernel_rfl) (NP.bl (NP.bl (NP.th (NP.th (NP.bl (NP.th NP.body)))))) (by kernel_rfl) (by kernel_rfl) (by kernel_rfl) rfl (LO.loadK 0 (vs := [.slice x1.a0 mm.s.length x1.c0, .slice x1.a1 mm.r.length x1.c1, .slice x1.a2 mm.w.length x1.c2]) rfl he_19 Tryz.isAgg32 Tryz.sizeOf32 rfl rfl) ?_
        refine JA.takeP 1 rfl (by kernel_rfl) (NP.bl (NP.bl (NP.th (NP.th (NP.bl (NP.th NP.body)))))) (by kernel_rfl) (by kernel_rfl) rfl (PO.move (v := .pointer (some ⟨qb, 0, none⟩)) he_17) ?_
        refine JA.one (i := 2) (by kernel_rfl) ?_
        refine JX.op rfl rfl (JO.call [0] Tryz.call173 rfl (D_below qb qa qc ql qp_28 qs_29 (by omega) (by omega) 2 (by omega)) rfl (fun w hw => ⟨hw.seeOut_ hs_qa (hpre.2), hw.apart hs_qa (hpre.2) (by simp)⟩)) ?_
        rintro _ _ ⟨_, ⟨qp_112, qs_113, n_115, fq_114, f_116, rfl, rfl⟩, rfl⟩
        refine ⟨(by simp), ?_⟩
        refine JA.takeP 3 rfl (by kernel_rfl) (NP.bl (NP.bl (NP.th (NP.th (NP.bl (NP.th NP.body)))))) (by kernel_rfl) (by kernel_rfl) rfl (PO.add (c := ((1 + n_115 : Nat) : Int)) rfl rfl (wr (by omega))) ?_
        refine JA.one (i := 4) (by kernel_rfl) ?_
        refine JX.op rfl rfl (JO.call [1, 1, 1] Tryz.call177 rfl (M_spawn x1 mm hkmm (by omega) (by omega) ((1 + n_115 : Nat) : Int) (by omega)) rfl (fun _ _ => trivial)) ?_
        rintro _ _ ⟨_, ⟨x_128, m_129, n_130, n_132, e_126, k_127, f_131, f_133, rfl, rfl⟩, rfl⟩
        refine ⟨(by simp), ?_⟩
        refine JA.takeP 5 rfl (by kernel_rfl) (NP.bl (NP.bl (NP.th (NP.th (NP.bl (NP.th NP.body)))))) (by kernel_rfl) (by kernel_rfl) rfl (PO.move (v := .tuple #[mv x_128 m_129, .int .i64 n_130, .int .i64 n_132]) rfl) ?_
        refine JA.takeP 6 rfl (by kernel_rfl) (NP.bl (NP.bl (NP.th (NP.th (NP.bl (NP.th NP.body)))))) (by kernel_rfl) (by kernel_rfl) rfl (PO.extract (v := mv x_128 m_129) rfl rfl) ?_
        refine JA.takeP 7 rfl (by kernel_rfl) (NP.bl (NP.bl (NP.th (NP.th (NP.bl (NP.th NP.body)))))) (by kernel_rfl) (by kernel_rfl) rfl (PO.extract (v := .int .i64 n_130) rfl rfl) ?_
        refine JA.takeP 8 rfl (by kernel_rfl) (NP.bl (NP.bl (NP.th (NP.th (NP.bl (NP.th NP.body)))))) (by kernel_rfl) (by kernel_rfl) rfl (PO.extract (v := .int .i64 n_132) rfl rfl) ?_
        refine JA.one (i := 9) (by kernel_rfl) ?_
        refine JX.last rfl rfl (by decide) (by kernel_rfl) (JO.store 4 (vs := [.slice x_128.a0 m_129.s.length x_128.c0, .slice x_128.a1 m_129.r.length x_128.c1, .slice x_128.a2 m_129.w.length x_128.c2]) (cs' := [.slice x_128.a0 m_129.s.length x_128.c0, .slice x_128.a1 m_129.r.length x_128.c1, .slice x_128.a2 m_129.w.length x_128.c2]) rfl he_19 rfl rfl Tryz.sizeOf32 rfl rfl (Nat.le_of_ble_eq_true rfl) rfl) ?_
        rintro _ _ rfl
        refine JQ.blockN ?_
        refine JQ.blockN ?_
        refine JQ.seq ?_
        refine JC.region ?_
        refine JL.pure rfl (PO.move (v := .int .i64 ((i_ : Nat) : Int)) he_20) ?_
        refine JL.pure rfl (PO.add (c := ((i_ + 1 : Nat) : Int)) rfl rfl (wr (by omega))) ?_
        refine JL.pure rfl (PO.assign (v := .int .i64 ((i_ + 1 : Nat) : Int)) rfl) ?_
        refine JL.nil ?_
        refine JQ.pick [0, 0, 0, 1, 1, 1, 0] (A := [rC x_128.a0 x_128.c0 m_129.s, rS x_128.a1 x_128.c1 m_129.r, rS x_128.a2 x_128.c2 m_129.w, mb b_7 x_128 m_129, Res.row (.slice a_2 0 0) 113 2 0 (([] : List Cell).flatMap encC), bk b_1 32 [.slice none 0 0, .slice none 0 0, .slice none 0 0], cb qb qa qc ql qp_112 qs_113]) rfl ?_
        refine JQ.again (8 - (i_ + 1)) (by omega) ⟨(i_ + 1), qp_112, qs_113, x_128, m_129, (by omega), (k_127.mono (by omega) (by omega)), (by omega), he_17, he_18, he_19, rfl, rfl, rfl⟩
  · skip
    refine JC.condF (congrArg Value.bool (decide_eq_false h_27)) ?_
    refine JC.exit ?_
    refine JQ.thenExit ?_
    refine JQ.thenExit ?_
    refine JQ.blockE ?_
    refine JQ.seq ?_
    refine JC.seq ?_
    refine JC.seq ?_
    refine JC.region ?_
    refine JL.pure rfl (PO.move (v := .pointer (some ⟨qb, 0, none⟩)) he_17) ?_
    refine JL.op rfl (JO.call [0] Tryz.call173 rfl (D_below qb qa qc ql qp_21 qs_22 (by omega) (by omega) 12 (by omega)) rfl (fun w hw => ⟨hw.seeOut_ hs_qa (hpre.2), hw.apart hs_qa (hpre.2) (by simp)⟩)) ?_
    rintro _ _ ⟨_, ⟨qp_134, qs_135, n_137, fq_136, f_138, rfl, rfl⟩, rfl⟩
    refine JL.nil ?_
    refine JQ.seq ?_
    refine JC.block ?_
    refine JC.seq ?_
    refine JC.region ?_
    refine JL.pure rfl (PO.eqlI rfl rfl) ?_
    refine JL.pure rfl (PO.assign (v := .bool (decide (((n_137 : Nat) : Int) = 0))) rfl) ?_
    refine JL.nil ?_
    refine JQ.seq ?_
    by_cases h_140 : ((n_137 : Nat) : Int) = 0
    · skip
      refine JC.condT (congrArg Value.bool (decide_eq_true h_140)) ?_
      refine JC.regionA [mb b_7 x1 mm] 4 mixed (by simp) ?_
      refine JA.take 0 rfl (by kernel_rfl) (NP.bl (NP.th NP.body)) (by kernel_rfl) (by kernel_rfl) (by kernel_rfl) rfl (LO.loadK 0 (vs := [.slice x1.a0 mm.s.length x1.c0, .slice x1.a1 mm.r.length x1.c1, .slice x1.a2 mm.w.length x1.c2]) rfl he_19 Tryz.isAgg32 Tryz.sizeOf32 rfl rfl) ?_
      refine JA.takeP 1 rfl (by kernel_rfl) (NP.bl (NP.th NP.body)) (by kernel_rfl) (by kernel_rfl) rfl (PO.move (v := .pointer (some ⟨qb, 0, none⟩)) he_17) ?_
      refine JA.one (i := 2) (by kernel_rfl) ?_
      refine JX.op rfl rfl (JO.call [0] Tryz.call173 rfl (D_below qb qa qc ql qp_134 qs_135 (by omega) (by omega) 2 (by omega)) rfl (fun w hw => ⟨hw.seeOut_ hs_qa (hpre.2), hw.apart hs_qa (hpre.2) (by simp)⟩)) ?_
      rintro _ _ ⟨_, ⟨qp_147, qs_148, n_150, fq_149, f_151, rfl, rfl⟩, rfl⟩
      refine ⟨(by simp), ?_⟩
      refine JA.takeP 3 rfl (by kernel_rfl) (NP.bl (NP.th NP.body)) (by kernel_rfl) (by kernel_rfl) rfl (PO.add (c := ((11 + n_150 : Nat) : Int)) rfl rfl (wr (by omega))) ?_
      refine JA.one (i := 4) (by kernel_rfl) ?_
      refine JX.late rfl rfl (by decide) (by kernel_rfl) (JO.call [1, 1, 1] Tryz.call233 rfl (N_sSetNum x1 mm hkmm (by omega) (by omega) [99, 47, 112, 114, 111, 99] ((11 + n_150 : Nat) : Int) (by decide) (by omega)) rfl (fun _ _ => trivial)) ?_
      rintro _ _ ⟨_, ⟨x_159, m_160, e_157, k_158, rfl, rfl⟩, rfl⟩
      refine JA.one (i := 5) (by kernel_rfl) ?_
      refine JX.last rfl rfl (by decide) (by kernel_rfl) (JO.store 4 (vs := [.slice x_159.a0 m_160.s.length x_159.c0, .slice x_159.a1 m_160.r.length x_159.c1, .slice x_159.a2 m_160.w.length x_159.c2]) (cs' := [.slice x_159.a0 m_160.s.length x_159.c0, .slice x_159.a1 m_160.r.length x_159.c1, .slice x_159.a2 m_160.w.length x_159.c2]) rfl he_19 rfl rfl Tryz.sizeOf32 rfl rfl (Nat.le_of_ble_eq_true rfl) rfl) ?_
      rintro _ _ rfl
      refine JQ.blockN ?_
      refine JQ.seq ?_
      refine JC.seq ?_
      refine JC.region ?_
      refine JL.ld rfl (LO.loadK 4 (vs := [.slice x_159.a0 m_160.s.length x_159.c0, .slice x_159.a1 m_160.r.length x_159.c1, .slice x_159.a2 m_160.w.length x_159.c2]) rfl he_19 Tryz.isAgg32 Tryz.sizeOf32 rfl rfl) ?_
      refine JL.op rfl (JO.store 6 (vs := [.slice x_159.a0 m_160.s.length x_159.c0, .slice x_159.a1 m_160.r.length x_159.c1, .slice x_159.a2 m_160.w.length x_159.c2]) (cs' := [.slice x_159.a0 m_160.s.length x_159.c0, .slice x_159.a1 m_160.r.length x_159.c1, .slice x_159.a2 m_160.w.length x_159.c2]) rfl he_18 rfl rfl Tryz.sizeOf32 rfl rfl (Nat.le_of_ble_eq_true rfl) rfl) ?_
      rintro _ _ rfl
      refine JL.nil ?_
      refine JQ.seq ?_
      refine JC.ret ?_
      refine JQ.perm (pick_perm [3, 0, 0, 0] (A := [cb qb qa qc ql qp_147 qs_148, rC x_159.a0 x_159.c0 m_160.s, rS x_159.a1 x_159.c1 m_160.r, rS x_159.a2 x_159.c2 m_160.w]) (F := [mb b_7 x_159 m_160, Res.row (.slice a_2 0 0) 113 2 0 (([] : List Cell).flatMap encC), mb b_1 x_159 m_160]) rfl).symm ?_
      refine Done.one (.inl rfl) rfl (RV.cell1 (LO.loadK 6 (vs := [.slice x_159.a0 m_160.s.length x_159.c0, .slice x_159.a1 m_160.r.length x_159.c1, .slice x_159.a2 m_160.w.length x_159.c2]) rfl he_18 Tryz.isAgg32 Tryz.sizeOf32 rfl rfl) ⟨_, he_18⟩) (List.sublist_append_left [cb qb qa qc ql qp_147 qs_148, rC x_159.a0 x_159.c0 m_160.s, rS x_159.a1 x_159.c1 m_160.r, rS x_159.a2 x_159.c2 m_160.w] [mb b_7 x_159 m_160, Res.row (.slice a_2 0 0) 113 2 0 (([] : List Cell).flatMap encC), mb b_1 x_159 m_160]) ?_
      exact ⟨qp_147, qs_148, x_159, m_160, (by omega), (k_158.mono (by omega) (by omega)), rfl, rfl⟩
    · skip
      refine JC.condF (congrArg Value.bool (decide_eq_false h_140)) ?_
      refine JC.seq ?_
      refine JC.region ?_
      refine JL.pure rfl (PO.eqlI rfl rfl) ?_
      refine JL.pure rfl (PO.assign (v := .bool (decide (((n_137 : Nat) : Int) = 1))) rfl) ?_
      refine JL.nil ?_
      refine JQ.seq ?_
      by_cases h_161 : ((n_137 : Nat) : Int) = 1
      · skip
        refine JC.condT (congrArg Value.bool (decide_eq_true h_161)) ?_
        refine JC.regionA [mb b_7 x1 mm] 8 mixed (by simp) ?_
        refine JA.take 0 rfl (by kernel_rfl) (NP.bl (NP.th NP.body)) (by kernel_rfl) (by kernel_rfl) (by kernel_rfl) rfl (LO.loadK 0 (vs := [.slice x1.a0 mm.s.length x1.c0, .slice x1.a1 mm.r.length x1.c1, .slice x1.a2 mm.w.length x1.c2]) rfl he_19 Tryz.isAgg32 Tryz.sizeOf32 rfl rfl) ?_
        refine JA.takeP 1 rfl (by kernel_rfl) (NP.bl (NP.th NP.body)) (by kernel_rfl) (by kernel_rfl) rfl (PO.move (v := .pointer (some ⟨qb, 0, none⟩)) he_17) ?_
        refine JA.takeP 4 rfl (by kernel_rfl) (NP.bl (NP.th NP.body)) (by kernel_rfl) (by kernel_rfl) rfl (PO.move (v := .pointer (some ⟨qb, 0, none⟩)) he_17) ?_
        refine JA.two (i := 2) (j := 5) (by kernel_rfl) ?_ ?_
        · skip
          refine JX.op rfl rfl (JO.buildSlice (ps := [(0, str [114, 47, 49, 47, 115]), (1, str [114, 47, 50, 47, 112]), (2, str [114, 47, 50, 47, 120]), (3, str [114, 47, 120, 47, 112])]) (cur := #[str [114, 47, 49, 47, 115], str [114, 47, 50, 47, 112], str [114, 47, 50, 47, 120], str [114, 47, 120, 47, 112]]) Tryz.underlying23 Tryz.sizeOf9 Tryz.zeroValue9 rfl (by kernel_rfl) (by decide) (by decide)) ?_
          rintro _ _ ⟨a_165, rfl, rfl⟩
          refine ⟨(by simp), ?_⟩
          refine JA.two (i := 3) (j := 5) (by kernel_rfl) ?_ ?_
          · skip
            refine JX.op rfl rfl (JO.call [1, 0] Tryz.call259 rfl (D_pick qb qa qc ql qp_134 qs_135 a_165 4 ([[114, 47, 49, 47, 115], [114, 47, 50, 47, 112], [114, 47, 50, 47, 120], [114, 47, 120, 47, 112]] : List Str) (by omega) (by omega) (by simp) (by simp)) rfl (fun w hw => ⟨hw.seeOut_ hs_qa (hpre.2), hw.apart hs_qa (hpre.2) (by simp)⟩)) ?_
            rintro _ _ ⟨_, ⟨qp_173, qs_174, u_176, fq_175, f_177, rfl, rfl⟩, rfl⟩
            have hlu_176 : u_176.length ≤ 64 := by have hx_ := f_177; simp only [List.mem_cons, List.not_mem_nil, or_false] at hx_; rcases hx_ with hx_ | hx_ | hx_ | hx_ <;> first | (rw [hx_]; decide) | (rw [hx_]; omega)
            refine ⟨(by simp), ?_⟩
            refine JA.one (i := 5) (by kernel_rfl) ?_
            refine JX.op rfl rfl (JO.buildSlice (ps := [(0, str [55]), (1, str [120]), (2, str []), (3, str [49])]) (cur := #[str [55], str [120], str [], str [49]]) Tryz.underlying23 Tryz.sizeOf9 Tryz.zeroValue9 rfl (by kernel_rfl) (by decide) (by decide)) ?_
            rintro _ _ ⟨a_180, rfl, rfl⟩
            refine ⟨(by simp), ?_⟩
            refine JA.one (i := 6) (by kernel_rfl) ?_
            refine JX.op rfl rfl (JO.call [1, 0] Tryz.call259 rfl (D_pick qb qa qc ql qp_173 qs_174 a_180 4 ([[55], [120], [], [49]] : List Str) (by omega) (by omega) (by simp) (by simp)) rfl (fun w hw => ⟨hw.seeOut_ hs_qa (hpre.2), hw.apart hs_qa (hpre.2) (by simp)⟩)) ?_
            rintro _ _ ⟨_, ⟨qp_187, qs_188, u_190, fq_189, f_191, rfl, rfl⟩, rfl⟩
            have hlu_190 : u_190.length ≤ 64 := by have hx_ := f_191; simp only [List.mem_cons, List.not_mem_nil, or_false] at hx_; rcases hx_ with hx_ | hx_ | hx_ | hx_ <;> first | (rw [hx_]; decide) | (rw [hx_]; omega)
            refine ⟨(by simp), ?_⟩
            refine JA.one (i := 7) (by kernel_rfl) ?_
            refine JX.op rfl rfl (JO.call [1, 1, 1] Tryz.call232 rfl (N_sLay x1 mm hkmm (by omega) (by omega) u_176 u_190 (by omega)) rfl (fun _ _ => trivial)) ?_
            rintro _ _ ⟨_, ⟨x_199, m_200, e_197, k_198, rfl, rfl⟩, rfl⟩
            refine ⟨(by simp), ?_⟩
            refine JA.one (i := 8) (by kernel_rfl) ?_
            refine JX.last rfl rfl (by decide) (by kernel_rfl) (JO.store 4 (vs := [.slice x_199.a0 m_200.s.length x_199.c0, .slice x_199.a1 m_200.r.length x_199.c1, .slice x_199.a2 m_200.w.length x_199.c2]) (cs' := [.slice x_199.a0 m_200.s.length x_199.c0, .slice x_199.a1 m_200.r.length x_199.c1, .slice x_199.a2 m_200.w.length x_199.c2]) rfl he_19 rfl rfl Tryz.sizeOf32 rfl rfl (Nat.le_of_ble_eq_true rfl) rfl) ?_
            rintro _ _ rfl
            refine JQ.blockN ?_
            refine JQ.seq ?_
            refine JC.seq ?_
            refine JC.region ?_
            refine JL.ld rfl (LO.loadK 4 (vs := [.slice x_199.a0 m_200.s.length x_199.c0, .slice x_199.a1 m_200.r.length x_199.c1, .slice x_199.a2 m_200.w.length x_199.c2]) rfl he_19 Tryz.isAgg32 Tryz.sizeOf32 rfl rfl) ?_
            refine JL.op rfl (JO.store 6 (vs := [.slice x_199.a0 m_200.s.length x_199.c0, .slice x_199.a1 m_200.r.length x_199.c1, .slice x_199.a2 m_200.w.length x_199.c2]) (cs' := [.slice x_199.a0 m_200.s.length x_199.c0, .slice x_199.a1 m_200.r.length x_199.c1, .slice x_199.a2 m_200.w.length x_199.c2]) rfl he_18 rfl rfl Tryz.sizeOf32 rfl rfl (Nat.le_of_ble_eq_true rfl) rfl) ?_
            rintro _ _ rfl
            refine JL.nil ?_
            refine JQ.seq ?_
            refine JC.ret ?_
            refine JQ.perm (pick_perm [3, 0, 0, 0] (A := [cb qb qa qc ql qp_187 qs_188, rC x_199.a0 x_199.c0 m_200.s, rS x_199.a1 x_199.c1 m_200.r, rS x_199.a2 x_199.c2 m_200.w]) (F := [mb b_7 x_199 m_200, Res.row (.slice a_2 0 0) 113 2 0 (([] : List Cell).flatMap encC), mb b_1 x_199 m_200]) rfl).symm ?_
            refine Done.one (.inl rfl) rfl (RV.cell1 (LO.loadK 6 (vs := [.slice x_199.a0 m_200.s.length x_199.c0, .slice x_199.a1 m_200.r.length x_199.c1, .slice x_199.a2 m_200.w.length x_199.c2]) rfl he_18 Tryz.isAgg32 Tryz.sizeOf32 rfl rfl) ⟨_, he_18⟩) (List.sublist_append_left [cb qb qa qc ql qp_187 qs_188, rC x_199.a0 x_199.c0 m_200.s, rS x_199.a1 x_199.c1 m_200.r, rS x_199.a2 x_199.c2 m_200.w] [mb b_7 x_199 m_200, Res.row (.slice a_2 0 0) 113 2 0 (([] : List Cell).flatMap encC), mb b_1 x_199 m_200]) ?_
            exact ⟨qp_187, qs_188, x_199, m_200, (by omega), (k_198.mono (by omega) (by omega)), rfl, rfl⟩
          · skip
            refine JX.op rfl rfl (JO.buildSlice (ps := [(0, str [55]), (1, str [120]), (2, str []), (3, str [49])]) (cur := #[str [55], str [120], str [], str [49]]) Tryz.underlying23 Tryz.sizeOf9 Tryz.zeroValue9 rfl (by kernel_rfl) (by decide) (by decide)) ?_
            rintro _ _ ⟨a_201, rfl, rfl⟩
            refine ⟨(by simp), ?_⟩
            refine JA.one (i := 3) (by kernel_rfl) ?_
            refine JX.op rfl rfl (JO.call [2, 1] Tryz.call259 rfl (D_pick qb qa qc ql qp_134 qs_135 a_165 4 ([[114, 47, 49, 47, 115], [114, 47, 50, 47, 112], [114, 47, 50, 47, 120], [114, 47, 120, 47, 112]] : List Str) (by omega) (by omega) (by simp) (by simp)) rfl (fun w hw => ⟨hw.seeOut_ hs_qa (hpre.2), hw.apart hs_qa (hpre.2) (by simp)⟩)) ?_
            rintro _ _ ⟨_, ⟨qp_208, qs_209, u_211, fq_210, f_212, rfl, rfl⟩, rfl⟩
            have hlu_211 : u_211.length ≤ 64 := by have hx_ := f_212; simp only [List.mem_cons, List.not_mem_nil, or_false] at hx_; rcases hx_ with hx_ | hx_ | hx_ | hx_ <;> first | (rw [hx_]; decide) | (rw [hx_]; omega)
            refine ⟨(by simp), ?_⟩
            refine JA.one (i := 6) (by kernel_rfl) ?_
            refine JX.op rfl rfl (JO.call [0, 0] Tryz.call259 rfl (D_pick qb qa qc ql qp_208 qs_209 a_201 4 ([[55], [120], [], [49]] : List Str) (by omega) (by omega) (by simp) (by simp)) rfl (fun w hw => ⟨hw.seeOut_ hs_qa (hpre.2), hw.apart hs_qa (hpre.2) (by simp)⟩)) ?_
            rintro _ _ ⟨_, ⟨qp_220, qs_221, u_223, fq_222, f_224, rfl, rfl⟩, rfl⟩
            have hlu_223 : u_223.length ≤ 64 := by have hx_ := f_224; simp only [List.mem_cons, List.not_mem_nil, or_false] at hx_; rcases hx_ with hx_ | hx_ | hx_ | hx_ <;> first | (rw [hx_]; decide) | (rw [hx_]; omega)
            refine ⟨(by simp), ?_⟩
            refine JA.one (i := 7) (by kernel_rfl) ?_
            refine JX.op rfl rfl (JO.call [1, 1, 1] Tryz.call232 rfl (N_sLay x1 mm hkmm (by omega) (by omega) u_211 u_223 (by omega)) rfl (fun _ _ => trivial)) ?_
            rintro _ _ ⟨_, ⟨x_232, m_233, e_230, k_231, rfl, rfl⟩, rfl⟩
            refine ⟨(by simp), ?_⟩
            refine JA.one (i := 8) (by kernel_rfl) ?_
            refine JX.last rfl rfl (by decide) (by kernel_rfl) (JO.store 4 (vs := [.slice x_232.a0 m_233.s.length x_232.c0, .slice x_232.a1 m_233.r.length x_232.c1, .slice x_232.a2 m_233.w.length x_232.c2]) (cs' := [.slice x_232.a0 m_233.s.length x_232.c0, .slice x_232.a1 m_233.r.length x_232.c1, .slice x_232.a2 m_233.w.length x_232.c2]) rfl he_19 rfl rfl Tryz.sizeOf32 rfl rfl (Nat.le_of_ble_eq_true rfl) rfl) ?_
            rintro _ _ rfl
            refine JQ.blockN ?_
            refine JQ.seq ?_
            refine JC.seq ?_
            refine JC.region ?_
            refine JL.ld rfl (LO.loadK 4 (vs := [.slice x_232.a0 m_233.s.length x_232.c0, .slice x_232.a1 m_233.r.length x_232.c1, .slice x_232.a2 m_233.w.length x_232.c2]) rfl he_19 Tryz.isAgg32 Tryz.sizeOf32 rfl rfl) ?_
            refine JL.op rfl (JO.store 6 (vs := [.slice x_232.a0 m_233.s.length x_232.c0, .slice x_232.a1 m_233.r.length x_232.c1, .slice x_232.a2 m_233.w.length x_232.c2]) (cs' := [.slice x_232.a0 m_233.s.length x_232.c0, .slice x_232.a1 m_233.r.length x_232.c1, .slice x_232.a2 m_233.w.length x_232.c2]) rfl he_18 rfl rfl Tryz.sizeOf32 rfl rfl (Nat.le_of_ble_eq_true rfl) rfl) ?_
            rintro _ _ rfl
            refine JL.nil ?_
            refine JQ.seq ?_
            refine JC.ret ?_
            refine JQ.perm (pick_perm [3, 0, 0, 0] (A := [cb qb qa qc ql qp_220 qs_221, rC x_232.a0 x_232.c0 m_233.s, rS x_232.a1 x_232.c1 m_233.r, rS x_232.a2 x_232.c2 m_233.w]) (F := [mb b_7 x_232 m_233, Res.row (.slice a_2 0 0) 113 2 0 (([] : List Cell).flatMap encC), mb b_1 x_232 m_233]) rfl).symm ?_
            refine Done.one (.inl rfl) rfl (RV.cell1 (LO.loadK 6 (vs := [.slice x_232.a0 m_233.s.length x_232.c0, .slice x_232.a1 m_233.r.length x_232.c1, .slice x_232.a2 m_233.w.length x_232.c2]) rfl he_18 Tryz.isAgg32 Tryz.sizeOf32 rfl rfl) ⟨_, he_18⟩) (List.sublist_append_left [cb qb qa qc ql qp_220 qs_221, rC x_232.a0 x_232.c0 m_233.s, rS x_232.a1 x_232.c1 m_233.r, rS x_232.a2 x_232.c2 m_233.w] [mb b_7 x_232 m_233, Res.row (.slice a_2 0 0) 113 2 0 (([] : List Cell).flatMap encC), mb b_1 x_232 m_233]) ?_
            exact ⟨qp_220, qs_221, x_232, m_233, (by omega), (k_231.mono (by omega) (by omega)), rfl, rfl⟩
        · skip
          refine JX.op rfl rfl (JO.buildSlice (ps := [(0, str [55]), (1, str [120]), (2, str []), (3, str [49])]) (cur := #[str [55], str [120], str [], str [49]]) Tryz.underlying23 Tryz.sizeOf9 Tryz.zeroValue9 rfl (by kernel_rfl) (by decide) (by decide)) ?_
          rintro _ _ ⟨a_234, rfl, rfl⟩
          refine ⟨(by simp), ?_⟩
          refine JA.one (i := 2) (by kernel_rfl) ?_
          refine JX.op rfl rfl (JO.buildSlice (ps := [(0, str [114, 47, 49, 47, 115]), (1, str [114, 47, 50, 47, 112]), (2, str [114, 47, 50, 47, 120]), (3, str [114, 47, 120, 47, 112])]) (cur := #[str [114, 47, 49, 47, 115], str [114, 47, 50, 47, 112], str [114, 47, 50, 47, 120], str [114, 47, 120, 47, 112]]) Tryz.underlying23 Tryz.sizeOf9 Tryz.zeroValue9 rfl (by kernel_rfl) (by decide) (by decide)) ?_
          rintro _ _ ⟨a_236, rfl, rfl⟩
          refine ⟨(by simp), ?_⟩
          refine JA.one (i := 3) (by kernel_rfl) ?_
          refine JX.op rfl rfl (JO.call [2, 0] Tryz.call259 rfl (D_pick qb qa qc ql qp_134 qs_135 a_236 4 ([[114, 47, 49, 47, 115], [114, 47, 50, 47, 112], [114, 47, 50, 47, 120], [114, 47, 120, 47, 112]] : List Str) (by omega) (by omega) (by simp) (by simp)) rfl (fun w hw => ⟨hw.seeOut_ hs_qa (hpre.2), hw.apart hs_qa (hpre.2) (by simp)⟩)) ?_
          rintro _ _ ⟨_, ⟨qp_243, qs_244, u_246, fq_245, f_247, rfl, rfl⟩, rfl⟩
          have hlu_246 : u_246.length ≤ 64 := by have hx_ := f_247; simp only [List.mem_cons, List.not_mem_nil, or_false] at hx_; rcases hx_ with hx_ | hx_ | hx_ | hx_ <;> first | (rw [hx_]; decide) | (rw [hx_]; omega)
          refine ⟨(by simp), ?_⟩
          refine JA.one (i := 6) (by kernel_rfl) ?_
          refine JX.op rfl rfl (JO.call [0, 0] Tryz.call259 rfl (D_pick qb qa qc ql qp_243 qs_244 a_234 4 ([[55], [120], [], [49]] : List Str) (by omega) (by omega) (by simp) (by simp)) rfl (fun w hw => ⟨hw.seeOut_ hs_qa (hpre.2), hw.apart hs_qa (hpre.2) (by simp)⟩)) ?_
          rintro _ _ ⟨_, ⟨qp_255, qs_256, u_258, fq_257, f_259, rfl, rfl⟩, rfl⟩
          have hlu_258 : u_258.length ≤ 64 := by have hx_ := f_259; simp only [List.mem_cons, List.not_mem_nil, or_false] at hx_; rcases hx_ with hx_ | hx_ | hx_ | hx_ <;> first | (rw [hx_]; decide) | (rw [hx_]; omega)
          refine ⟨(by simp), ?_⟩
          refine JA.one (i := 7) (by kernel_rfl) ?_
          refine JX.op rfl rfl (JO.call [1, 1, 1] Tryz.call232 rfl (N_sLay x1 mm hkmm (by omega) (by omega) u_246 u_258 (by omega)) rfl (fun _ _ => trivial)) ?_
          rintro _ _ ⟨_, ⟨x_267, m_268, e_265, k_266, rfl, rfl⟩, rfl⟩
          refine ⟨(by simp), ?_⟩
          refine JA.one (i := 8) (by kernel_rfl) ?_
          refine JX.last rfl rfl (by decide) (by kernel_rfl) (JO.store 4 (vs := [.slice x_267.a0 m_268.s.length x_267.c0, .slice x_267.a1 m_268.r.length x_267.c1, .slice x_267.a2 m_268.w.length x_267.c2]) (cs' := [.slice x_267.a0 m_268.s.length x_267.c0, .slice x_267.a1 m_268.r.length x_267.c1, .slice x_267.a2 m_268.w.length x_267.c2]) rfl he_19 rfl rfl Tryz.sizeOf32 rfl rfl (Nat.le_of_ble_eq_true rfl) rfl) ?_
          rintro _ _ rfl
          refine JQ.blockN ?_
          refine JQ.seq ?_
          refine JC.seq ?_
          refine JC.region ?_
          refine JL.ld rfl (LO.loadK 4 (vs := [.slice x_267.a0 m_268.s.length x_267.c0, .slice x_267.a1 m_268.r.length x_267.c1, .slice x_267.a2 m_268.w.length x_267.c2]) rfl he_19 Tryz.isAgg32 Tryz.sizeOf32 rfl rfl) ?_
          refine JL.op rfl (JO.store 6 (vs := [.slice x_267.a0 m_268.s.length x_267.c0, .slice x_267.a1 m_268.r.length x_267.c1, .slice x_267.a2 m_268.w.length x_267.c2]) (cs' := [.slice x_267.a0 m_268.s.length x_267.c0, .slice x_267.a1 m_268.r.length x_267.c1, .slice x_267.a2 m_268.w.length x_267.c2]) rfl he_18 rfl rfl Tryz.sizeOf32 rfl rfl (Nat.le_of_ble_eq_true rfl) rfl) ?_
          rintro _ _ rfl
          refine JL.nil ?_
          refine JQ.seq ?_
          refine JC.ret ?_
          refine JQ.perm (pick_perm [3, 0, 0, 0] (A := [cb qb qa qc ql qp_255 qs_256, rC x_267.a0 x_267.c0 m_268.s, rS x_267.a1 x_267.c1 m_268.r, rS x_267.a2 x_267.c2 m_268.w]) (F := [mb b_7 x_267 m_268, Res.row (.slice a_2 0 0) 113 2 0 (([] : List Cell).flatMap encC), mb b_1 x_267 m_268]) rfl).symm ?_
          refine Done.one (.inl rfl) rfl (RV.cell1 (LO.loadK 6 (vs := [.slice x_267.a0 m_268.s.length x_267.c0, .slice x_267.a1 m_268.r.length x_267.c1, .slice x_267.a2 m_268.w.length x_267.c2]) rfl he_18 Tryz.isAgg32 Tryz.sizeOf32 rfl rfl) ⟨_, he_18⟩) (List.sublist_append_left [cb qb qa qc ql qp_255 qs_256, rC x_267.a0 x_267.c0 m_268.s, rS x_267.a1 x_267.c1 m_268.r, rS x_267.a2 x_267.c2 m_268.w] [mb b_7 x_267 m_268, Res.row (.slice a_2 0 0) 113 2 0 (([] : List Cell).flatMap encC), mb b_1 x_267 m_268]) ?_
          exact ⟨qp_255, qs_256, x_267, m_268, (by omega), (k_266.mono (by omega) (by omega)), rfl, rfl⟩
      · skip
        refine JC.condF (congrArg Value.bool (decide_eq_false h_161)) ?_
        refine JC.skip ?_
        refine JQ.blockN ?_
        refine JQ.seq ?_
        refine JC.seq ?_
        refine JC.region ?_
        refine JL.ld rfl (LO.loadK 4 (vs := [.slice x1.a0 mm.s.length x1.c0, .slice x1.a1 mm.r.length x1.c1, .slice x1.a2 mm.w.length x1.c2]) rfl he_19 Tryz.isAgg32 Tryz.sizeOf32 rfl rfl) ?_
        refine JL.op rfl (JO.store 6 (vs := [.slice x1.a0 mm.s.length x1.c0, .slice x1.a1 mm.r.length x1.c1, .slice x1.a2 mm.w.length x1.c2]) (cs' := [.slice x1.a0 mm.s.length x1.c0, .slice x1.a1 mm.r.length x1.c1, .slice x1.a2 mm.w.length x1.c2]) rfl he_18 rfl rfl Tryz.sizeOf32 rfl rfl (Nat.le_of_ble_eq_true rfl) rfl) ?_
        rintro _ _ rfl
        refine JL.nil ?_
        refine JQ.seq ?_
        refine JC.ret ?_
        refine Done.one (.inl rfl) rfl (RV.cell1 (LO.loadK 6 (vs := [.slice x1.a0 mm.s.length x1.c0, .slice x1.a1 mm.r.length x1.c1, .slice x1.a2 mm.w.length x1.c2]) rfl he_18 Tryz.isAgg32 Tryz.sizeOf32 rfl rfl) ⟨_, he_18⟩) (List.sublist_append_left [cb qb qa qc ql qp_134 qs_135, rC x1.a0 x1.c0 mm.s, rS x1.a1 x1.c1 mm.r, rS x1.a2 x1.c2 mm.w] [mb b_7 x1 mm, Res.row (.slice a_2 0 0) 113 2 0 (([] : List Cell).flatMap encC), mb b_1 x1 mm]) ?_
        exact ⟨qp_134, qs_135, x1, mm, (by omega), (hkmm.mono (by omega) (by omega)), rfl, rfl⟩

theorem D_id09 (qb : Nat) (qa : Option Addr) (qc : Nat) (ql : Str) (qp : Nat) (qs : Int) (hql : ql.length ≤ 1048576) (hqp : qp ≤ ql.length)  :
    Ct Tryz.prog 179 [.pointer (some ⟨qb, 0, none⟩)] [cb qb qa qc ql qp qs] (fun w => seesC w qa qc ql [cb qb qa qc ql qp qs]) (fun v A' => ∃ qp' qs' r0, qp' ≤ ql.length ∧ (-9223372036854775808 ≤ r0 ∧ r0 ≤ 9223372036854775807) ∧ v = .int .i64 r0 ∧ A' = [cb qb qa qc ql qp' qs']) := by
  refine Ct.intro Tryz.func179 rfl Tryz.ntmps179 (Nat.le_of_ble_eq_true rfl) fun w0 hpre => ?_
  have hs_qa : Sees w0 _ _ _ _ := hpre.1
  refine JC.seq ?_
  refine JC.region ?_
  refine JL.pure rfl (PO.assign (v := .int .i64 0) rfl) ?_
  refine JL.nil ?_
  refine JQ.seq ?_
  refine JC.seq ?_
  refine JC.region ?_
  refine JL.pure rfl (PO.move (v := .pointer (some ⟨qb, 0, none⟩)) rfl) ?_
  refine JL.op rfl (JO.buildSlice (ps := [(0, .int .i64 1), (1, .int .i64 2), (2, .int .i64 2), (3, .int .i64 3), (4, .int .i64 3), (5, .int .i64 4), (6, .int .i64 0), (7, .int .i64 (-1))]) (cur := #[.int .i64 1, .int .i64 2, .int .i64 2, .int .i64 3, .int .i64 3, .int .i64 4, .int .i64 0, .int .i64 (-1)]) Tryz.underlying70 Tryz.sizeOf3 Tryz.zeroValue3 rfl (by kernel_rfl) (by decide) (by decide)) ?_
  rintro _ _ ⟨a_1, rfl, rfl⟩
  refine JL.op rfl (JO.call [1, 0] Tryz.call162 rfl (D_pickInt qb qa qc ql qp qs a_1 8 ([1, 2, 2, 3, 3, 4, 0, -1] : List Int) (by omega) (by omega) (by simp) (by simp)) rfl (fun w hw => ⟨hw.seeOut_ hs_qa (hpre.2), hw.apart hs_qa (hpre.2) (by simp)⟩)) ?_
  rintro _ _ ⟨_, ⟨qp_2, qs_3, n_5, fq_4, f_6, rfl, rfl⟩, rfl⟩
  have hbn_5 : -9223372036854775808 ≤ n_5 ∧ n_5 ≤ 9223372036854775807 := by have hx_ := f_6; simp only [List.mem_cons, List.not_mem_nil, or_false] at hx_; omega
  refine JL.pure rfl (PO.assign (v := .int .i64 n_5) rfl) ?_
  refine JL.nil ?_
  refine JQ.seq ?_
  refine JC.ret ?_
  refine Done.one (.inl rfl) rfl (RV.tmp (v := .int .i64 n_5) rfl) (List.Sublist.refl _) ?_
  exact ⟨qp_2, qs_3, n_5, (by omega), (by first | omega | (simp only [List.length_append, List.length_cons, List.length_nil, List.length_take, List.length_drop]; omega)), rfl, rfl⟩

theorem D_mach10 (qb : Nat) (qa : Option Addr) (qc : Nat) (ql : Str) (qp : Nat) (qs : Int) (hql : ql.length ≤ 1048576) (hqp : qp ≤ ql.length)  :
    Ct Tryz.prog 188 [.pointer (some ⟨qb, 0, none⟩)] [cb qb qa qc ql qp qs] (fun w => seesC w qa qc ql [cb qb qa qc ql qp qs]) (fun v A' => ∃ qp' qs' r0x r0, qp' ≤ ql.length ∧ r0.ok (275600) (2624500) ∧ v = mv r0x r0 ∧ A' = cb qb qa qc ql qp' qs' :: mr r0x r0) := by
  refine Ct.intro Tryz.func188 rfl Tryz.ntmps188 (Nat.le_of_ble_eq_true rfl) fun w0 hpre => ?_
  have hs_qa : Sees w0 _ _ _ _ := hpre.1
  refine JC.seq ?_
  refine JC.region ?_
  refine JL.op rfl (JO.alloc (z := .agg #[.slice none 0 0, .slice none 0 0, .slice none 0 0]) (cs := [.slice none 0 0, .slice none 0 0, .slice none 0 0]) Tryz.zeroValue32 rfl) ?_
  rintro _ _ ⟨b_1, rfl, rfl⟩
  refine JL.nil ?_
  refine JQ.seq ?_
  refine JC.seq ?_
  refine JC.region ?_
  refine JL.pure rfl (PO.move (v := .pointer (some ⟨qb, 0, none⟩)) rfl) ?_
  refine JL.op rfl (JO.call [1] Tryz.call178 rfl (D_mach09 qb qa qc ql qp qs (by omega) (by omega)) rfl (fun w hw => ⟨hw.seeOut_ hs_qa (hpre.2), hw.apart hs_qa (hpre.2) (by simp)⟩)) ?_
  rintro _ _ ⟨_, ⟨qp_2, qs_3, x_5, m_6, fq_4, k_7, rfl, rfl⟩, rfl⟩
  refine JL.op rfl (JO.alloc (z := .agg #[.slice none 0 0, .slice none 0 0, .slice none 0 0]) (cs := [.slice none 0 0, .slice none 0 0, .slice none 0 0]) Tryz.zeroValue32 rfl) ?_
  rintro _ _ ⟨b_9, rfl, rfl⟩
  refine JL.op rfl (JO.store 0 (vs := [.slice x_5.a0 m_6.s.length x_5.c0, .slice x_5.a1 m_6.r.length x_5.c1, .slice x_5.a2 m_6.w.length x_5.c2]) (cs' := [.slice x_5.a0 m_6.s.length x_5.c0, .slice x_5.a1 m_6.r.length x_5.c1, .slice x_5.a2 m_6.w.length x_5.c2]) rfl rfl rfl rfl Tryz.sizeOf32 rfl rfl (Nat.le_of_ble_eq_true rfl) rfl) ?_
  rintro _ _ rfl
  refine JL.nil ?_
  refine JQ.seq ?_
  refine JC.seq ?_
  refine JC.seq ?_
  refine JC.region ?_
  refine JL.pure rfl (PO.assign (v := .int .i64 0) rfl) ?_
  refine JL.nil ?_
  refine JQ.seq ?_
  refine JC.block ?_
  refine JC.loop (fun k_ e_ L_ => ∃ i_ : Nat, ∃ p_q : Nat, ∃ s_q : Int, ∃ x1 : MA, ∃ mm : MS, (p_q ≤ ql.length) ∧ (mm.ok (42 * 3 ^ i_ - 2) (400 * 3 ^ i_)) ∧ (i_ ≤ 8) ∧ e_ 0 = .pointer (some ⟨qb, 0, none⟩) ∧ e_ 2 = .pointer (some ⟨b_1, 0, none⟩) ∧ e_ 3 = .pointer (some ⟨b_9, 0, none⟩) ∧ e_ 4 = .int .i64 ((i_ : Nat) : Int) ∧ L_ = [mb b_9 x1 mm, cb qb qa qc ql p_q s_q, rC x1.a0 x1.c0 mm.s, rS x1.a1 x1.c1 mm.r, rS x1.a2 x1.c2 mm.w, bk b_1 32 [.slice none 0 0, .slice none 0 0, .slice none 0 0]] ∧ k_ = 9 - i_) _ ⟨0, qp_2, qs_3, x_5, m_6, (by omega), (k_7.mono (by omega) (by omega)), (by omega), rfl, rfl, rfl, rfl, rfl, rfl⟩ ?_
  rintro _ e_10 _ ⟨i_, p_q, s_q, x1, mm, hpq_, hkmm, hi, he_11, he_12, he_13, he_14, rfl, rfl⟩
  refine JC.seq ?_
  refine JC.seq ?_
  refine JC.region ?_
  refine JL.pure rfl (PO.move (v := .int .i64 ((i_ : Nat) : Int)) he_14) ?_
  refine JL.pure rfl (PO.move (v := .pointer (some ⟨qb, 0, none⟩)) he_11) ?_
  refine JL.op rfl (JO.call [1] Tryz.call173 rfl (D_below qb qa qc ql p_q s_q (by omega) (by omega) 8 (by omega)) rfl (fun w hw => ⟨hw.seeOut_ hs_qa (hpre.2), hw.apart hs_qa (hpre.2) (by simp)⟩)) ?_
  rintro _ _ ⟨_, ⟨qp_15, qs_16, n_18, fq_17, f_19, rfl, rfl⟩, rfl⟩
  refine JL.pure rfl (PO.lss rfl rfl) ?_
  refine JL.nil ?_
  refine JQ.seq ?_
  by_cases h_21 : ((i_ : Nat) : Int) < ((n_18 : Nat) : Int)
  · skip
    have hp3 : 3 ^ i_ ≤ 3 ^ 7 := Nat.pow_le_pow_right (by decide) (by omega)
    have hp3p : 1 ≤ 3 ^ i_ := Nat.pos_of_ne_zero (by simp)
    have hp3s : 3 ^ (i_ + 1) = 3 * 3 ^ i_ := by rw [Nat.pow_succ]; omega
    refine JC.condT (congrArg Value.bool (decide_eq_true h_21)) ?_
    refine JC.skip ?_
    refine JQ.seq ?_
    refine JC.seq ?_
    refine JC.block ?_
    refine JC.seq ?_
    refine JC.region ?_
    refine JL.pure rfl (PO.move (v := .pointer (some ⟨qb, 0, none⟩)) he_11) ?_
    refine JL.op rfl (JO.call [0] Tryz.call173 rfl (D_below qb qa qc ql qp_15 qs_16 (by omega) (by omega) 5 (by omega)) rfl (fun w hw => ⟨hw.seeOut_ hs_qa (hpre.2), hw.apart hs_qa (hpre.2) (by simp)⟩)) ?_
    rintro _ _ ⟨_, ⟨qp_22, qs_23, n_25, fq_24, f_26, rfl, rfl⟩, rfl⟩
    refine JL.nil ?_
    refine JQ.seq ?_
    refine JC.block ?_
    refine JC.seq ?_
    refine JC.region ?_
    refine JL.pure rfl (PO.eqlI rfl rfl) ?_
    refine JL.pure rfl (PO.assign (v := .bool (decide (((n_25 : Nat) : Int) = 0))) rfl) ?_
    refine JL.nil ?_
    refine JQ.seq ?_
    by_cases h_28 : ((n_25 : Nat) : Int) = 0
    · skip
      refine JC.condT (congrArg Value.bool (decide_eq_true h_28)) ?_
      refine JC.regionA [mb b_9 x1 mm] 9 mixed (by simp) ?_
      refine JA.take 0 rfl (by kernel_rfl) (NP.bl (NP.bl (NP.th (NP.th (NP.bl (NP.th NP.body)))))) (by kernel_rfl) (by kernel_rfl) (by kernel_rfl) rfl (LO.loadK 0 (vs := [.slice x1.a0 mm.s.length x1.c0, .slice x1.a1 mm.r.length x1.c1, .slice x1.a2 mm.w.length x1.c2]) rfl he_13 Tryz.isAgg32 Tryz.sizeOf32 rfl rfl) ?_
      refine JA.takeP 1 rfl (by kernel_rfl) (NP.bl (NP.bl (NP.th (NP.th (NP.bl (NP.th NP.body)))))) (by kernel_rfl) (by kernel_rfl) rfl (PO.move (v := .pointer (some ⟨qb, 0, none⟩)) he_11) ?_
      refine JA.one (i := 2) (by kernel_rfl) ?_
      refine JX.op rfl rfl (JO.call [0] Tryz.call173 rfl (D_below qb qa qc ql qp_22 qs_23 (by omega) (by omega) 3 (by omega)) rfl (fun w hw => ⟨hw.seeOut_ hs_qa (hpre.2), hw.apart hs_qa (hpre.2) (by simp)⟩)) ?_
      rintro _ _ ⟨_, ⟨qp_35, qs_36, n_38, fq_37, f_39, rfl, rfl⟩, rfl⟩
      refine ⟨(by simp), ?_⟩
      refine JA.takeP 3 rfl (by kernel_rfl) (NP.bl (NP.bl (NP.th (NP.th (NP.bl (NP.th NP.body)))))) (by kernel_rfl) (by kernel_rfl) rfl (PO.add (c := ((1 + n_38 : Nat) : Int)) rfl rfl (wr (by omega))) ?_
      refine JA.one (i := 4) (by kernel_rfl) ?_
      refine JX.op rfl rfl (JO.call [2, 2, 2] Tryz.call192 rfl (M_takeSignal x1 mm hkmm (by omega) (by omega) ((1 + n_38 : Nat) : Int) (by omega)) rfl (fun _ _ => trivial)) ?_
      rintro _ _ ⟨_, ⟨x_51, m_52, n_53, n_55, e_49, k_50, f_54, f_56, rfl, rfl⟩, rfl⟩
      refine ⟨(by simp), ?_⟩
      refine JA.takeP 5 rfl (by kernel_rfl) (NP.bl (NP.bl (NP.th (NP.th (NP.bl (NP.th NP.body)))))) (by kernel_rfl) (by kernel_rfl) rfl (PO.move (v := .tuple #[mv x_51 m_52, .int .i64 n_53, .int .i64 n_55]) rfl) ?_
      refine JA.takeP 6 rfl (by kernel_rfl) (NP.bl (NP.bl (NP.th (NP.th (NP.bl (NP.th NP.body)))))) (by kernel_rfl) (by kernel_rfl) rfl (PO.extract (v := mv x_51 m_52) rfl rfl) ?_
      refine JA.takeP 7 rfl (by kernel_rfl) (NP.bl (NP.bl (NP.th (NP.th (NP.bl (NP.th NP.body)))))) (by kernel_rfl) (by kernel_rfl) rfl (PO.extract (v := .int .i64 n_53) rfl rfl) ?_
      refine JA.takeP 8 rfl (by kernel_rfl) (NP.bl (NP.bl (NP.th (NP.th (NP.bl (NP.th NP.body)))))) (by kernel_rfl) (by kernel_rfl) rfl (PO.extract (v := .int .i64 n_55) rfl rfl) ?_
      refine JA.one (i := 9) (by kernel_rfl) ?_
      refine JX.last rfl rfl (by decide) (by kernel_rfl) (JO.store 4 (vs := [.slice x_51.a0 m_52.s.length x_51.c0, .slice x_51.a1 m_52.r.length x_51.c1, .slice x_51.a2 m_52.w.length x_51.c2]) (cs' := [.slice x_51.a0 m_52.s.length x_51.c0, .slice x_51.a1 m_52.r.length x_51.c1, .slice x_51.a2 m_52.w.length x_51.c2]) rfl he_13 rfl rfl Tryz.sizeOf32 rfl rfl (Nat.le_of_ble_eq_true rfl) rfl) ?_
      rintro _ _ rfl
      refine JQ.blockN ?_
      refine JQ.blockN ?_
      refine JQ.seq ?_
      refine JC.region ?_
      refine JL.pure rfl (PO.move (v := .int .i64 ((i_ : Nat) : Int)) he_14) ?_
      refine JL.pure rfl (PO.add (c := ((i_ + 1 : Nat) : Int)) rfl rfl (wr (by omega))) ?_
      refine JL.pure rfl (PO.assign (v := .int .i64 ((i_ + 1 : Nat) : Int)) rfl) ?_
      refine JL.nil ?_
      refine JQ.pick [4, 3, 0, 0, 0, 0] (A := [mb b_9 x_51 m_52, cb qb qa qc ql qp_35 qs_36, rC x_51.a0 x_51.c0 m_52.s, rS x_51.a1 x_51.c1 m_52.r, rS x_51.a2 x_51.c2 m_52.w, bk b_1 32 [.slice none 0 0, .slice none 0 0, .slice none 0 0]]) rfl ?_
      refine JQ.again (9 - (i_ + 1)) (by omega) ⟨(i_ + 1), qp_35, qs_36, x_51, m_52, (by omega), (k_50.mono (by omega) (by omega)), (by omega), he_11, he_12, he_13, rfl, rfl, rfl⟩
    · skip
      refine JC.condF (congrArg Value.bool (decide_eq_false h_28)) ?_
      refine JC.seq ?_
      refine JC.region ?_
      refine JL.pure rfl (PO.eqlI rfl rfl) ?_
      refine JL.pure rfl (PO.assign (v := .bool (decide (((n_25 : Nat) : Int) = 1))) rfl) ?_
      refine JL.nil ?_
      refine JQ.seq ?_
      by_cases h_57 : ((n_25 : Nat) : Int) = 1
      · skip
        refine JC.condT (congrArg Value.bool (decide_eq_true h_57)) ?_
        refine JC.regionA [mb b_9 x1 mm] 10 mixed (by simp) ?_
        refine JA.take 0 rfl (by kernel_rfl) (NP.bl (NP.bl (NP.th (NP.th (NP.bl (NP.th NP.body)))))) (by kernel_rfl) (by kernel_rfl) (by kernel_rfl) rfl (LO.loadK 0 (vs := [.slice x1.a0 mm.s.length x1.c0, .slice x1.a1 mm.r.length x1.c1, .slice x1.a2 mm.w.length x1.c2]) rfl he_13 Tryz.isAgg32 Tryz.sizeOf32 rfl rfl) ?_
        refine JA.takeP 1 rfl (by kernel_rfl) (NP.bl (NP.bl (NP.th (NP.th (NP.bl (NP.th NP.body)))))) (by kernel_rfl) (by kernel_rfl) rfl (PO.move (v := .pointer (some ⟨qb, 0, none⟩)) he_11) ?_
        refine JA.takeP 4 rfl (by kernel_rfl) (NP.bl (NP.bl (NP.th (NP.th (NP.bl (NP.th NP.body)))))) (by kernel_rfl) (by kernel_rfl) rfl (PO.move (v := .pointer (some ⟨qb, 0, none⟩)) he_11) ?_
        refine JA.one (i := 2) (by kernel_rfl) ?_
        refine JX.op rfl rfl (JO.call [0] Tryz.call173 rfl (D_below qb qa qc ql qp_22 qs_23 (by omega) (by omega) 3 (by omega)) rfl (fun w hw => ⟨hw.seeOut_ hs_qa (hpre.2), hw.apart hs_qa (hpre.2) (by simp)⟩)) ?_
        rintro _ _ ⟨_, ⟨qp_70, qs_71, n_73, fq_72, f_74, rfl, rfl⟩, rfl⟩
        refine ⟨(by simp), ?_⟩
        refine JA.takeP 3 rfl (by kernel_rfl) (NP.bl (NP.bl (NP.th (NP.th (NP.bl (NP.th NP.body)))))) (by kernel_rfl) (by kernel_rfl) rfl (PO.add (c := ((1 + n_73 : Nat) : Int)) rfl rfl (wr (by omega))) ?_
        refine JA.one (i := 5) (by kernel_rfl) ?_
        refine JX.op rfl rfl (JO.call [0] Tryz.call173 rfl (D_below qb qa qc ql qp_70 qs_71 (by omega) (by omega) 20 (by omega)) rfl (fun w hw => ⟨hw.seeOut_ hs_qa (hpre.2), hw.apart hs_qa (hpre.2) (by simp)⟩)) ?_
        rintro _ _ ⟨_, ⟨qp_82, qs_83, n_85, fq_84, f_86, rfl, rfl⟩, rfl⟩
        refine ⟨(by simp), ?_⟩
        refine JA.one (i := 6) (by kernel_rfl) ?_
        refine JX.op rfl rfl (JO.call [2, 2, 2] Tryz.call194 rfl (M_setTimer x1 mm hkmm (by omega) (by omega) ((1 + n_73 : Nat) : Int) ((n_85 : Nat) : Int) (by omega) (by omega)) rfl (fun _ _ => trivial)) ?_
        rintro _ _ ⟨_, ⟨x_96, m_97, n_98, e_94, k_95, f_99, rfl, rfl⟩, rfl⟩
        refine ⟨(by simp), ?_⟩
        refine JA.takeP 7 rfl (by kernel_rfl) (NP.bl (NP.bl (NP.th (NP.th (NP.bl (NP.th NP.body)))))) (by kernel_rfl) (by kernel_rfl) rfl (PO.move (v := .tuple #[mv x_96 m_97, .int .i64 n_98]) rfl) ?_
        refine JA.takeP 8 rfl (by kernel_rfl) (NP.bl (NP.bl (NP.th (NP.th (NP.bl (NP.th NP.body)))))) (by kernel_rfl) (by kernel_rfl) rfl (PO.extract (v := mv x_96 m_97) rfl rfl) ?_
        refine JA.takeP 9 rfl (by kernel_rfl) (NP.bl (NP.bl (NP.th (NP.th (NP.bl (NP.th NP.body)))))) (by kernel_rfl) (by kernel_rfl) rfl (PO.extract (v := .int .i64 n_98) rfl rfl) ?_
        refine JA.one (i := 10) (by kernel_rfl) ?_
        refine JX.last rfl rfl (by decide) (by kernel_rfl) (JO.store 4 (vs := [.slice x_96.a0 m_97.s.length x_96.c0, .slice x_96.a1 m_97.r.length x_96.c1, .slice x_96.a2 m_97.w.length x_96.c2]) (cs' := [.slice x_96.a0 m_97.s.length x_96.c0, .slice x_96.a1 m_97.r.length x_96.c1, .slice x_96.a2 m_97.w.length x_96.c2]) rfl he_13 rfl rfl Tryz.sizeOf32 rfl rfl (Nat.le_of_ble_eq_true rfl) rfl) ?_
        rintro _ _ rfl
        refine JQ.blockN ?_
        refine JQ.blockN ?_
        refine JQ.seq ?_
        refine JC.region ?_
        refine JL.pure rfl (PO.move (v := .int .i64 ((i_ : Nat) : Int)) he_14) ?_
        refine JL.pure rfl (PO.add (c := ((i_ + 1 : Nat) : Int)) rfl rfl (wr (by omega))) ?_
        refine JL.pure rfl (PO.assign (v := .int .i64 ((i_ + 1 : Nat) : Int)) rfl) ?_
        refine JL.nil ?_
        refine JQ.pick [4, 3, 0, 0, 0, 0] (A := [mb b_9 x_96 m_97, cb qb qa qc ql qp_82 qs_83, rC x_96.a0 x_96.c0 m_97.s, rS x_96.a1 x_96.c1 m_97.r, rS x_96.a2 x_96.c2 m_97.w, bk b_1 32 [.slice none 0 0, .slice none 0 0, .slice none 0 0]]) rfl ?_
        refine JQ.again (9 - (i_ + 1)) (by omega) ⟨(i_ + 1), qp_82, qs_83, x_96, m_97, (by omega), (k_95.mono (by omega) (by omega)), (by omega), he_11, he_12, he_13, rfl, rfl, rfl⟩
      · skip
        refine JC.condF (congrArg Value.bool (decide_eq_false h_57)) ?_
        refine JC.seq ?_
        refine JC.region ?_
        refine JL.pure rfl (PO.eqlI rfl rfl) ?_
        refine JL.pure rfl (PO.assign (v := .bool (decide (((n_25 : Nat) : Int) = 2))) rfl) ?_
        refine JL.nil ?_
        refine JQ.seq ?_
        by_cases h_100 : ((n_25 : Nat) : Int) = 2
        · skip
          refine JC.condT (congrArg Value.bool (decide_eq_true h_100)) ?_
          refine JC.regionA [mb b_9 x1 mm] 9 mixed (by simp) ?_
          refine JA.take 0 rfl (by kernel_rfl) (NP.bl (NP.bl (NP.th (NP.th (NP.bl (NP.th NP.body)))))) (by kernel_rfl) (by kernel_rfl) (by kernel_rfl) rfl (LO.loadK 0 (vs := [.slice x1.a0 mm.s.length x1.c0, .slice x1.a1 mm.r.length x1.c1, .slice x1.a2 mm.w.length x1.c2]) rfl he_13 Tryz.isAgg32 Tryz.sizeOf32 rfl rfl) ?_
          refine JA.takeP 1 rfl (by kernel_rfl) (NP.bl (NP.bl (NP.th (NP.th (NP.bl (NP.th NP.body)))))) (by kernel_rfl) (by kernel_rfl) rfl (PO.move (v := .pointer (some ⟨qb, 0, none⟩)) he_11) ?_
          refine JA.one (i := 2) (by kernel_rfl) ?_
          refine JX.op rfl rfl (JO.call [0] Tryz.call173 rfl (D_below qb qa qc ql qp_22 qs_23 (by omega) (by omega) 6 (by omega)) rfl (fun w hw => ⟨hw.seeOut_ hs_qa (hpre.2), hw.apart hs_qa (hpre.2) (by simp)⟩)) ?_
          rintro _ _ ⟨_, ⟨qp_107, qs_108, n_110, fq_109, f_111, rfl, rfl⟩, rfl⟩
          refine ⟨(by simp), ?_⟩
          refine JA.takeP 3 rfl (by kernel_rfl) (NP.bl (NP.bl (NP.th (NP.th (NP.bl (NP.th NP.body)))))) (by kernel_rfl) (by kernel_rfl) rfl (PO.add (c := ((1 + n_110 : Nat) : Int)) rfl rfl (wr (by omega))) ?_
          refine JA.one (i := 4) (by kernel_rfl) ?_
          refine JX.op rfl rfl (JO.call [2, 2, 2] Tryz.call196 rfl (M_tick x1 mm hkmm (by omega) (by omega) ((1 + n_110 : Nat) : Int) (by omega)) rfl (fun _ _ => trivial)) ?_
          rintro _ _ ⟨_, ⟨x_123, m_124, n_125, n_127, e_121, k_122, f_126, f_128, rfl, rfl⟩, rfl⟩
          refine ⟨(by simp), ?_⟩
          refine JA.takeP 5 rfl (by kernel_rfl) (NP.bl (NP.bl (NP.th (NP.th (NP.bl (NP.th NP.body)))))) (by kernel_rfl) (by kernel_rfl) rfl (PO.move (v := .tuple #[mv x_123 m_124, .int .i64 n_125, .int .i64 n_127]) rfl) ?_
          refine JA.takeP 6 rfl (by kernel_rfl) (NP.bl (NP.bl (NP.th (NP.th (NP.bl (NP.th NP.body)))))) (by kernel_rfl) (by kernel_rfl) rfl (PO.extract (v := mv x_123 m_124) rfl rfl) ?_
          refine JA.takeP 7 rfl (by kernel_rfl) (NP.bl (NP.bl (NP.th (NP.th (NP.bl (NP.th NP.body)))))) (by kernel_rfl) (by kernel_rfl) rfl (PO.extract (v := .int .i64 n_125) rfl rfl) ?_
          refine JA.takeP 8 rfl (by kernel_rfl) (NP.bl (NP.bl (NP.th (NP.th (NP.bl (NP.th NP.body)))))) (by kernel_rfl) (by kernel_rfl) rfl (PO.extract (v := .int .i64 n_127) rfl rfl) ?_
          refine JA.one (i := 9) (by kernel_rfl) ?_
          refine JX.last rfl rfl (by decide) (by kernel_rfl) (JO.store 4 (vs := [.slice x_123.a0 m_124.s.length x_123.c0, .slice x_123.a1 m_124.r.length x_123.c1, .slice x_123.a2 m_124.w.length x_123.c2]) (cs' := [.slice x_123.a0 m_124.s.length x_123.c0, .slice x_123.a1 m_124.r.length x_123.c1, .slice x_123.a2 m_124.w.length x_123.c2]) rfl he_13 rfl rfl Tryz.sizeOf32 rfl rfl (Nat.le_of_ble_eq_true rfl) rfl) ?_
          rintro _ _ rfl
          refine JQ.blockN ?_
          refine JQ.blockN ?_
          refine JQ.seq ?_
          refine JC.region ?_
          refine JL.pure rfl (PO.move (v := .int .i64 ((i_ : Nat) : Int)) he_14) ?_
          refine JL.pure rfl (PO.add (c := ((i_ + 1 : Nat) : Int)) rfl rfl (wr (by omega))) ?_
          refine JL.pure rfl (PO.assign (v := .int .i64 ((i_ + 1 : Nat) : Int)) rfl) ?_
          refine JL.nil ?_
          refine JQ.pick [4, 3, 0, 0, 0, 0] (A := [mb b_9 x_123 m_124, cb qb qa qc ql qp_107 qs_108, rC x_123.a0 x_123.c0 m_124.s, rS x_123.a1 x_123.c1 m_124.r, rS x_123.a2 x_123.c2 m_124.w, bk b_1 32 [.slice none 0 0, .slice none 0 0, .slice none 0 0]]) rfl ?_
          refine JQ.again (9 - (i_ + 1)) (by omega) ⟨(i_ + 1), qp_107, qs_108, x_123, m_124, (by omega), (k_122.mono (by omega) (by omega)), (by omega), he_11, he_12, he_13, rfl, rfl, rfl⟩
        · skip
          refine JC.condF (congrArg Value.bool (decide_eq_false h_100)) ?_
          refine JC.regionA [mb b_9 x1 mm] 11 mixed (by simp) ?_
          refine JA.take 0 rfl (by kernel_rfl) (NP.bl (NP.bl (NP.th (NP.th (NP.bl (NP.th NP.body)))))) (by kernel_rfl) (by kernel_rfl) (by kernel_rfl) rfl (LO.loadK 0 (vs := [.slice x1.a0 mm.s.length x1.c0, .slice x1.a1 mm.r.length x1.c1, .slice x1.a2 mm.w.length x1.c2]) rfl he_13 Tryz.isAgg32 Tryz.sizeOf32 rfl rfl) ?_
          refine JA.takeP 1 rfl (by kernel_rfl) (NP.bl (NP.bl (NP.th (NP.th (NP.bl (NP.th NP.body)))))) (by kernel_rfl) (by kernel_rfl) rfl (PO.move (v := .pointer (some ⟨qb, 0, none⟩)) he_11) ?_
          refine JA.takeP 4 rfl (by kernel_rfl) (NP.bl (NP.bl (NP.th (NP.th (NP.bl (NP.th NP.body)))))) (by kernel_rfl) (by kernel_rfl) rfl (PO.move (v := .pointer (some ⟨qb, 0, none⟩)) he_11) ?_
          refine JA.one (i := 2) (by kernel_rfl) ?_
          refine JX.op rfl rfl (JO.call [0] Tryz.call173 rfl (D_below qb qa qc ql qp_22 qs_23 (by omega) (by omega) 3 (by omega)) rfl (fun w hw => ⟨hw.seeOut_ hs_qa (hpre.2), hw.apart hs_qa (hpre.2) (by simp)⟩)) ?_
          rintro _ _ ⟨_, ⟨qp_141, qs_142, n_144, fq_143, f_145, rfl, rfl⟩, rfl⟩
          refine ⟨(by simp), ?_⟩
          refine JA.takeP 3 rfl (by kernel_rfl) (NP.bl (NP.bl (NP.th (NP.th (NP.bl (NP.th NP.body)))))) (by kernel_rfl) (by kernel_rfl) rfl (PO.add (c := ((1 + n_144 : Nat) : Int)) rfl rfl (wr (by omega))) ?_
          refine JA.one (i := 5) (by kernel_rfl) ?_
          refine JX.op rfl rfl (JO.call [0] Tryz.call173 rfl (D_below qb qa qc ql qp_141 qs_142 (by omega) (by omega) 20 (by omega)) rfl (fun w hw => ⟨hw.seeOut_ hs_qa (hpre.2), hw.apart hs_qa (hpre.2) (by simp)⟩)) ?_
          rintro _ _ ⟨_, ⟨qp_153, qs_154, n_156, fq_155, f_157, rfl, rfl⟩, rfl⟩
          refine ⟨(by simp), ?_⟩
          refine JA.takeP 6 rfl (by kernel_rfl) (NP.bl (NP.bl (NP.th (NP.th (NP.bl (NP.th NP.body)))))) (by kernel_rfl) (by kernel_rfl) rfl (PO.add (c := ((1 + n_156 : Nat) : Int)) rfl rfl (wr (by omega))) ?_
          refine JA.one (i := 7) (by kernel_rfl) ?_
          refine JX.op rfl rfl (JO.call [2, 2, 2] Tryz.call190 rfl (M_send x1 mm hkmm (by omega) (by omega) ((1 + n_144 : Nat) : Int) ((1 + n_156 : Nat) : Int) (by omega) (by omega)) rfl (fun _ _ => trivial)) ?_
          rintro _ _ ⟨_, ⟨x_167, m_168, n_169, e_165, k_166, f_170, rfl, rfl⟩, rfl⟩
          refine ⟨(by simp), ?_⟩
          refine JA.takeP 8 rfl (by kernel_rfl) (NP.bl (NP.bl (NP.th (NP.th (NP.bl (NP.th NP.body)))))) (by kernel_rfl) (by kernel_rfl) rfl (PO.move (v := .tuple #[mv x_167 m_168, .int .i64 n_169]) rfl) ?_
          refine JA.takeP 9 rfl (by kernel_rfl) (NP.bl (NP.bl (NP.th (NP.th (NP.bl (NP.th NP.body)))))) (by kernel_rfl) (by kernel_rfl) rfl (PO.extract (v := mv x_167 m_168) rfl rfl) ?_
          refine JA.takeP 10 rfl (by kernel_rfl) (NP.bl (NP.bl (NP.th (NP.th (NP.bl (NP.th NP.body)))))) (by kernel_rfl) (by kernel_rfl) rfl (PO.extract (v := .int .i64 n_169) rfl rfl) ?_
          refine JA.one (i := 11) (by kernel_rfl) ?_
          refine JX.last rfl rfl (by decide) (by kernel_rfl) (JO.store 4 (vs := [.slice x_167.a0 m_168.s.length x_167.c0, .slice x_167.a1 m_168.r.length x_167.c1, .slice x_167.a2 m_168.w.length x_167.c2]) (cs' := [.slice x_167.a0 m_168.s.length x_167.c0, .slice x_167.a1 m_168.r.length x_167.c1, .slice x_167.a2 m_168.w.length x_167.c2]) rfl he_13 rfl rfl Tryz.sizeOf32 rfl rfl (Nat.le_of_ble_eq_true rfl) rfl) ?_
          rintro _ _ rfl
          refine JQ.blockN ?_
          refine JQ.blockN ?_
          refine JQ.seq ?_
          refine JC.region ?_
          refine JL.pure rfl (PO.move (v := .int .i64 ((i_ : Nat) : Int)) he_14) ?_
          refine JL.pure rfl (PO.add (c := ((i_ + 1 : Nat) : Int)) rfl rfl (wr (by omega))) ?_
          refine JL.pure rfl (PO.assign (v := .int .i64 ((i_ + 1 : Nat) : Int)) rfl) ?_
          refine JL.nil ?_
          refine JQ.pick [4, 3, 0, 0, 0, 0] (A := [mb b_9 x_167 m_168, cb qb qa qc ql qp_153 qs_154, rC x_167.a0 x_167.c0 m_168.s, rS x_167.a1 x_167.c1 m_168.r, rS x_167.a2 x_167.c2 m_168.w, bk b_1 32 [.slice none 0 0, .slice none 0 0, .slice none 0 0]]) rfl ?_
          refine JQ.again (9 - (i_ + 1)) (by omega) ⟨(i_ + 1), qp_153, qs_154, x_167, m_168, (by omega), (k_166.mono (by omega) (by omega)), (by omega), he_11, he_12, he_13, rfl, rfl, rfl⟩
  · skip
    have hp3 : 3 ^ i_ ≤ 3 ^ 8 := Nat.pow_le_pow_right (by decide) (by omega)
    have hp3p : 1 ≤ 3 ^ i_ := Nat.pos_of_ne_zero (by simp)
    have hp3s : 3 ^ (i_ + 1) = 3 * 3 ^ i_ := by rw [Nat.pow_succ]; omega
    refine JC.condF (congrArg Value.bool (decide_eq_false h_21)) ?_
    refine JC.exit ?_
    refine JQ.thenExit ?_
    refine JQ.thenExit ?_
    refine JQ.blockE ?_
    refine JQ.seq ?_
    refine JC.seq ?_
    refine JC.seq ?_
    refine JC.region ?_
    refine JL.pure rfl (PO.move (v := .pointer (some ⟨qb, 0, none⟩)) he_11) ?_
    refine JL.op rfl (JO.call [0] Tryz.call173 rfl (D_below qb qa qc ql qp_15 qs_16 (by omega) (by omega) 14 (by omega)) rfl (fun w hw => ⟨hw.seeOut_ hs_qa (hpre.2), hw.apart hs_qa (hpre.2) (by simp)⟩)) ?_
    rintro _ _ ⟨_, ⟨qp_171, qs_172, n_174, fq_173, f_175, rfl, rfl⟩, rfl⟩
    refine JL.nil ?_
    refine JQ.seq ?_
    refine JC.block ?_
    refine JC.seq ?_
    refine JC.region ?_
    refine JL.pure rfl (PO.eqlI rfl rfl) ?_
    refine JL.pure rfl (PO.assign (v := .bool (decide (((n_174 : Nat) : Int) = 0))) rfl) ?_
    refine JL.nil ?_
    refine JQ.seq ?_
    by_cases h_177 : ((n_174 : Nat) : Int) = 0
    · skip
      refine JC.condT (congrArg Value.bool (decide_eq_true h_177)) ?_
      refine JC.region ?_
      refine JL.ld rfl (LO.loadK 1 (vs := [.slice x1.a0 mm.s.length x1.c0, .slice x1.a1 mm.r.length x1.c1, .slice x1.a2 mm.w.length x1.c2]) rfl he_13 Tryz.isAgg32 Tryz.sizeOf32 rfl rfl) ?_
      refine JL.op rfl (JO.call [2, 2, 2] Tryz.call233 rfl (N_sSetNum x1 mm hkmm (by omega) (by omega) [99, 47, 99, 108, 111, 99, 107] 998 (by decide) (by omega)) rfl (fun _ _ => trivial)) ?_
      rintro _ _ ⟨_, ⟨x_180, m_181, e_178, k_179, rfl, rfl⟩, rfl⟩
      refine JL.op rfl (JO.store 4 (vs := [.slice x_180.a0 m_181.s.length x_180.c0, .slice x_180.a1 m_181.r.length x_180.c1, .slice x_180.a2 m_181.w.length x_180.c2]) (cs' := [.slice x_180.a0 m_181.s.length x_180.c0, .slice x_180.a1 m_181.r.length x_180.c1, .slice x_180.a2 m_181.w.length x_180.c2]) rfl he_13 rfl rfl Tryz.sizeOf32 rfl rfl (Nat.le_of_ble_eq_true rfl) rfl) ?_
      rintro _ _ rfl
      refine JL.nil ?_
      refine JQ.blockN ?_
      refine JQ.seq ?_
      refine JC.seq ?_
      refine JC.region ?_
      refine JL.ld rfl (LO.loadK 4 (vs := [.slice x_180.a0 m_181.s.length x_180.c0, .slice x_180.a1 m_181.r.length x_180.c1, .slice x_180.a2 m_181.w.length x_180.c2]) rfl he_13 Tryz.isAgg32 Tryz.sizeOf32 rfl rfl) ?_
      refine JL.op rfl (JO.store 5 (vs := [.slice x_180.a0 m_181.s.length x_180.c0, .slice x_180.a1 m_181.r.length x_180.c1, .slice x_180.a2 m_181.w.length x_180.c2]) (cs' := [.slice x_180.a0 m_181.s.length x_180.c0, .slice x_180.a1 m_181.r.length x_180.c1, .slice x_180.a2 m_181.w.length x_180.c2]) rfl he_12 rfl rfl Tryz.sizeOf32 rfl rfl (Nat.le_of_ble_eq_true rfl) rfl) ?_
      rintro _ _ rfl
      refine JL.nil ?_
      refine JQ.seq ?_
      refine JC.ret ?_
      refine JQ.perm (pick_perm [3, 0, 0, 0] (A := [cb qb qa qc ql qp_171 qs_172, rC x_180.a0 x_180.c0 m_181.s, rS x_180.a1 x_180.c1 m_181.r, rS x_180.a2 x_180.c2 m_181.w]) (F := [mb b_9 x_180 m_181, mb b_1 x_180 m_181]) rfl).symm ?_
      refine Done.one (.inl rfl) rfl (RV.cell1 (LO.loadK 5 (vs := [.slice x_180.a0 m_181.s.length x_180.c0, .slice x_180.a1 m_181.r.length x_180.c1, .slice x_180.a2 m_181.w.length x_180.c2]) rfl he_12 Tryz.isAgg32 Tryz.sizeOf32 rfl rfl) ⟨_, he_12⟩) (List.sublist_append_left [cb qb qa qc ql qp_171 qs_172, rC x_180.a0 x_180.c0 m_181.s, rS x_180.a1 x_180.c1 m_181.r, rS x_180.a2 x_180.c2 m_181.w] [mb b_9 x_180 m_181, mb b_1 x_180 m_181]) ?_
      exact ⟨qp_171, qs_172, x_180, m_181, (by omega), (k_179.mono (by omega) (by omega)), rfl, rfl⟩
    · skip
      refine JC.condF (congrArg Value.bool (decide_eq_false h_177)) ?_
      refine JC.seq ?_
      refine JC.region ?_
      refine JL.pure rfl (PO.eqlI rfl rfl) ?_
      refine JL.pure rfl (PO.assign (v := .bool (decide (((n_174 : Nat) : Int) = 1))) rfl) ?_
      refine JL.nil ?_
      refine JQ.seq ?_
      by_cases h_182 : ((n_174 : Nat) : Int) = 1
      · skip
        refine JC.condT (congrArg Value.bool (decide_eq_true h_182)) ?_
        refine JC.region ?_
        refine JL.ld rfl (LO.loadK 1 (vs := [.slice x1.a0 mm.s.length x1.c0, .slice x1.a1 mm.r.length x1.c1, .slice x1.a2 mm.w.length x1.c2]) rfl he_13 Tryz.isAgg32 Tryz.sizeOf32 rfl rfl) ?_
        refine JL.op rfl (JO.call [2, 2, 2] Tryz.call233 rfl (N_sSetNum x1 mm hkmm (by omega) (by omega) [103, 47, 49, 47, 116] 999 (by decide) (by omega)) rfl (fun _ _ => trivial)) ?_
        rintro _ _ ⟨_, ⟨x_185, m_186, e_183, k_184, rfl, rfl⟩, rfl⟩
        refine JL.op rfl (JO.store 4 (vs := [.slice x_185.a0 m_186.s.length x_185.c0, .slice x_185.a1 m_186.r.length x_185.c1, .slice x_185.a2 m_186.w.length x_185.c2]) (cs' := [.slice x_185.a0 m_186.s.length x_185.c0, .slice x_185.a1 m_186.r.length x_185.c1, .slice x_185.a2 m_186.w.length x_185.c2]) rfl he_13 rfl rfl Tryz.sizeOf32 rfl rfl (Nat.le_of_ble_eq_true rfl) rfl) ?_
        rintro _ _ rfl
        refine JL.nil ?_
        refine JQ.blockN ?_
        refine JQ.seq ?_
        refine JC.seq ?_
        refine JC.region ?_
        refine JL.ld rfl (LO.loadK 4 (vs := [.slice x_185.a0 m_186.s.length x_185.c0, .slice x_185.a1 m_186.r.length x_185.c1, .slice x_185.a2 m_186.w.length x_185.c2]) rfl he_13 Tryz.isAgg32 Tryz.sizeOf32 rfl rfl) ?_
        refine JL.op rfl (JO.store 5 (vs := [.slice x_185.a0 m_186.s.length x_185.c0, .slice x_185.a1 m_186.r.length x_185.c1, .slice x_185.a2 m_186.w.length x_185.c2]) (cs' := [.slice x_185.a0 m_186.s.length x_185.c0, .slice x_185.a1 m_186.r.length x_185.c1, .slice x_185.a2 m_186.w.length x_185.c2]) rfl he_12 rfl rfl Tryz.sizeOf32 rfl rfl (Nat.le_of_ble_eq_true rfl) rfl) ?_
        rintro _ _ rfl
        refine JL.nil ?_
        refine JQ.seq ?_
        refine JC.ret ?_
        refine JQ.perm (pick_perm [3, 0, 0, 0] (A := [cb qb qa qc ql qp_171 qs_172, rC x_185.a0 x_185.c0 m_186.s, rS x_185.a1 x_185.c1 m_186.r, rS x_185.a2 x_185.c2 m_186.w]) (F := [mb b_9 x_185 m_186, mb b_1 x_185 m_186]) rfl).symm ?_
        refine Done.one (.inl rfl) rfl (RV.cell1 (LO.loadK 5 (vs := [.slice x_185.a0 m_186.s.length x_185.c0, .slice x_185.a1 m_186.r.length x_185.c1, .slice x_185.a2 m_186.w.length x_185.c2]) rfl he_12 Tryz.isAgg32 Tryz.sizeOf32 rfl rfl) ⟨_, he_12⟩) (List.sublist_append_left [cb qb qa qc ql qp_171 qs_172, rC x_185.a0 x_185.c0 m_186.s, rS x_185.a1 x_185.c1 m_186.r, rS x_185.a2 x_185.c2 m_186.w] [mb b_9 x_185 m_186, mb b_1 x_185 m_186]) ?_
        exact ⟨qp_171, qs_172, x_185, m_186, (by omega), (k_184.mono (by omega) (by omega)), rfl, rfl⟩
      · skip
        refine JC.condF (congrArg Value.bool (decide_eq_false h_182)) ?_
        refine JC.seq ?_
        refine JC.region ?_
        refine JL.pure rfl (PO.eqlI rfl rfl) ?_
        refine JL.pure rfl (PO.assign (v := .bool (decide (((n_174 : Nat) : Int) = 2))) rfl) ?_
        refine JL.nil ?_
        refine JQ.seq ?_
        by_cases h_187 : ((n_174 : Nat) : Int) = 2
        · skip
          refine JC.condT (congrArg Value.bool (decide_eq_true h_187)) ?_
          refine JC.regionA [mb b_9 x1 mm] 8 mixed (by simp) ?_
          refine JA.take 0 rfl (by kernel_rfl) (NP.bl (NP.th NP.body)) (by kernel_rfl) (by kernel_rfl) (by kernel_rfl) rfl (LO.loadK 0 (vs := [.slice x1.a0 mm.s.length x1.c0, .slice x1.a1 mm.r.length x1.c1, .slice x1.a2 mm.w.length x1.c2]) rfl he_13 Tryz.isAgg32 Tryz.sizeOf32 rfl rfl) ?_
          refine JA.takeP 1 rfl (by kernel_rfl) (NP.bl (NP.th NP.body)) (by kernel_rfl) (by kernel_rfl) rfl (PO.move (v := .pointer (some ⟨qb, 0, none⟩)) he_11) ?_
          refine JA.takeP 4 rfl (by kernel_rfl) (NP.bl (NP.th NP.body)) (by kernel_rfl) (by kernel_rfl) rfl (PO.move (v := .pointer (some ⟨qb, 0, none⟩)) he_11) ?_
          refine JA.two (i := 2) (j := 5) (by kernel_rfl) ?_ ?_
          · skip
            refine JX.op rfl rfl (JO.buildSlice (ps := [(0, str [116, 47, 120]), (1, str [103, 47, 49, 47, 104]), (2, str [116, 47, 50])]) (cur := #[str [116, 47, 120], str [103, 47, 49, 47, 104], str [116, 47, 50]]) Tryz.underlying23 Tryz.sizeOf9 Tryz.zeroValue9 rfl (by kernel_rfl) (by decide) (by decide)) ?_
            rintro _ _ ⟨a_191, rfl, rfl⟩
            refine ⟨(by simp), ?_⟩
            refine JA.two (i := 3) (j := 5) (by kernel_rfl) ?_ ?_
            · skip
              refine JX.op rfl rfl (JO.call [1, 0] Tryz.call259 rfl (D_pick qb qa qc ql qp_171 qs_172 a_191 3 ([[116, 47, 120], [103, 47, 49, 47, 104], [116, 47, 50]] : List Str) (by omega) (by omega) (by simp) (by simp)) rfl (fun w hw => ⟨hw.seeOut_ hs_qa (hpre.2), hw.apart hs_qa (hpre.2) (by simp)⟩)) ?_
              rintro _ _ ⟨_, ⟨qp_199, qs_200, u_202, fq_201, f_203, rfl, rfl⟩, rfl⟩
              have hlu_202 : u_202.length ≤ 64 := by have hx_ := f_203; simp only [List.mem_cons, List.not_mem_nil, or_false] at hx_; rcases hx_ with hx_ | hx_ | hx_ <;> first | (rw [hx_]; decide) | (rw [hx_]; omega)
              refine ⟨(by simp), ?_⟩
              refine JA.one (i := 5) (by kernel_rfl) ?_
              refine JX.op rfl rfl (JO.buildSlice (ps := [(0, str [51]), (1, str [120]), (2, str [])]) (cur := #[str [51], str [120], str []]) Tryz.underlying23 Tryz.sizeOf9 Tryz.zeroValue9 rfl (by kernel_rfl) (by decide) (by decide)) ?_
              rintro _ _ ⟨a_206, rfl, rfl⟩
              refine ⟨(by simp), ?_⟩
              refine JA.one (i := 6) (by kernel_rfl) ?_
              refine JX.op rfl rfl (JO.call [1, 0] Tryz.call259 rfl (D_pick qb qa qc ql qp_199 qs_200 a_206 3 ([[51], [120], []] : List Str) (by omega) (by omega) (by simp) (by simp)) rfl (fun w hw => ⟨hw.seeOut_ hs_qa (hpre.2), hw.apart hs_qa (hpre.2) (by simp)⟩)) ?_
              rintro _ _ ⟨_, ⟨qp_213, qs_214, u_216, fq_215, f_217, rfl, rfl⟩, rfl⟩
              have hlu_216 : u_216.length ≤ 64 := by have hx_ := f_217; simp only [List.mem_cons, List.not_mem_nil, or_false] at hx_; rcases hx_ with hx_ | hx_ | hx_ <;> first | (rw [hx_]; decide) | (rw [hx_]; omega)
              refine ⟨(by simp), ?_⟩
              refine JA.one (i := 7) (by kernel_rfl) ?_
              refine JX.op rfl rfl (JO.call [2, 2, 2] Tryz.call232 rfl (N_sLay x1 mm hkmm (by omega) (by omega) u_202 u_216 (by omega)) rfl (fun _ _ => trivial)) ?_
              rintro _ _ ⟨_, ⟨x_225, m_226, e_223, k_224, rfl, rfl⟩, rfl⟩
              refine ⟨(by simp), ?_⟩
              refine JA.one (i := 8) (by kernel_rfl) ?_
              refine JX.last rfl rfl (by decide) (by kernel_rfl) (JO.store 4 (vs := [.slice x_225.a0 m_226.s.length x_225.c0, .slice x_225.a1 m_226.r.length x_225.c1, .slice x_225.a2 m_226.w.length x_225.c2]) (cs' := [.slice x_225.a0 m_226.s.length x_225.c0, .slice x_225.a1 m_226.r.length x_225.c1, .slice x_225.a2 m_226.w.length x_225.c2]) rfl he_13 rfl rfl Tryz.sizeOf32 rfl rfl (Nat.le_of_ble_eq_true rfl) rfl) ?_
              rintro _ _ rfl
              refine JQ.blockN ?_
              refine JQ.seq ?_
              refine JC.seq ?_
              refine JC.region ?_
              refine JL.ld rfl (LO.loadK 4 (vs := [.slice x_225.a0 m_226.s.length x_225.c0, .slice x_225.a1 m_226.r.length x_225.c1, .slice x_225.a2 m_226.w.length x_225.c2]) rfl he_13 Tryz.isAgg32 Tryz.sizeOf32 rfl rfl) ?_
              refine JL.op rfl (JO.store 5 (vs := [.slice x_225.a0 m_226.s.length x_225.c0, .slice x_225.a1 m_226.r.length x_225.c1, .slice x_225.a2 m_226.w.length x_225.c2]) (cs' := [.slice x_225.a0 m_226.s.length x_225.c0, .slice x_225.a1 m_226.r.length x_225.c1, .slice x_225.a2 m_226.w.length x_225.c2]) rfl he_12 rfl rfl Tryz.sizeOf32 rfl rfl (Nat.le_of_ble_eq_true rfl) rfl) ?_
              rintro _ _ rfl
              refine JL.nil ?_
              refine JQ.seq ?_
              refine JC.ret ?_
              refine JQ.perm (pick_perm [3, 0, 0, 0] (A := [cb qb qa qc ql qp_213 qs_214, rC x_225.a0 x_225.c0 m_226.s, rS x_225.a1 x_225.c1 m_226.r, rS x_225.a2 x_225.c2 m_226.w]) (F := [mb b_9 x_225 m_226, mb b_1 x_225 m_226]) rfl).symm ?_
              refine Done.one (.inl rfl) rfl (RV.cell1 (LO.loadK 5 (vs := [.slice x_225.a0 m_226.s.length x_225.c0, .slice x_225.a1 m_226.r.length x_225.c1, .slice x_225.a2 m_226.w.length x_225.c2]) rfl he_12 Tryz.isAgg32 Tryz.sizeOf32 rfl rfl) ⟨_, he_12⟩) (List.sublist_append_left [cb qb qa qc ql qp_213 qs_214, rC x_225.a0 x_225.c0 m_226.s, rS x_225.a1 x_225.c1 m_226.r, rS x_225.a2 x_225.c2 m_226.w] [mb b_9 x_225 m_226, mb b_1 x_225 m_226]) ?_
              exact ⟨qp_213, qs_214, x_225, m_226, (by omega), (k_224.mono (by omega) (by omega)), rfl, rfl⟩
            · skip
              refine JX.op rfl rfl (JO.buildSlice (ps := [(0, str [51]), (1, str [120]), (2, str [])]) (cur := #[str [51], str [120], str []]) Tryz.underlying23 Tryz.sizeOf9 Tryz.zeroValue9 rfl (by kernel_rfl) (by decide) (by decide)) ?_
              rintro _ _ ⟨a_227, rfl, rfl⟩
              refine ⟨(by simp), ?_⟩
              refine JA.one (i := 3) (by kernel_rfl) ?_
              refine JX.op rfl rfl (JO.call [2, 1] Tryz.call259 rfl (D_pick qb qa qc ql qp_171 qs_172 a_191 3 ([[116, 47, 120], [103, 47, 49, 47, 104], [116, 47, 50]] : List Str) (by omega) (by omega) (by simp) (by simp)) rfl (fun w hw => ⟨hw.seeOut_ hs_qa (hpre.2), hw.apart hs_qa (hpre.2) (by simp)⟩)) ?_
              rintro _ _ ⟨_, ⟨qp_234, qs_235, u_237, fq_236, f_238, rfl, rfl⟩, rfl⟩
              have hlu_237 : u_237.length ≤ 64 := by have hx_ := f_238; simp only [List.mem_cons, List.not_mem_nil, or_false] at hx_; rcases hx_ with hx_ | hx_ | hx_ <;> first | (rw [hx_]; decide) | (rw [hx_]; omega)
              refine ⟨(by simp), ?_⟩
              refine JA.one (i := 6) (by kernel_rfl) ?_
              refine JX.op rfl rfl (JO.call [0, 0] Tryz.call259 rfl (D_pick qb qa qc ql qp_234 qs_235 a_227 3 ([[51], [120], []] : List Str) (by omega) (by omega) (by simp) (by simp)) rfl (fun w hw => ⟨hw.seeOut_ hs_qa (hpre.2), hw.apart hs_qa (hpre.2) (by simp)⟩)) ?_
              rintro _ _ ⟨_, ⟨qp_246, qs_247, u_249, fq_248, f_250, rfl, rfl⟩, rfl⟩
              have hlu_249 : u_249.length ≤ 64 := by have hx_ := f_250; simp only [List.mem_cons, List.not_mem_nil, or_false] at hx_; rcases hx_ with hx_ | hx_ | hx_ <;> first | (rw [hx_]; decide) | (rw [hx_]; omega)
              refine ⟨(by simp), ?_⟩
              refine JA.one (i := 7) (by kernel_rfl) ?_
              refine JX.op rfl rfl (JO.call [2, 2, 2] Tryz.call232 rfl (N_sLay x1 mm hkmm (by omega) (by omega) u_237 u_249 (by omega)) rfl (fun _ _ => trivial)) ?_
              rintro _ _ ⟨_, ⟨x_258, m_259, e_256, k_257, rfl, rfl⟩, rfl⟩
              refine ⟨(by simp), ?_⟩
              refine JA.one (i := 8) (by kernel_rfl) ?_
              refine JX.last rfl rfl (by decide) (by kernel_rfl) (JO.store 4 (vs := [.slice x_258.a0 m_259.s.length x_258.c0, .slice x_258.a1 m_259.r.length x_258.c1, .slice x_258.a2 m_259.w.length x_258.c2]) (cs' := [.slice x_258.a0 m_259.s.length x_258.c0, .slice x_258.a1 m_259.r.length x_258.c1, .slice x_258.a2 m_259.w.length x_258.c2]) rfl he_13 rfl rfl Tryz.sizeOf32 rfl rfl (Nat.le_of_ble_eq_true rfl) rfl) ?_
              rintro _ _ rfl
              refine JQ.blockN ?_
              refine JQ.seq ?_
              refine JC.seq ?_
              refine JC.region ?_
              refine JL.ld rfl (LO.loadK 4 (vs := [.slice x_258.a0 m_259.s.length x_258.c0, .slice x_258.a1 m_259.r.length x_258.c1, .slice x_258.a2 m_259.w.length x_258.c2]) rfl he_13 Tryz.isAgg32 Tryz.sizeOf32 rfl rfl) ?_
              refine JL.op rfl (JO.store 5 (vs := [.slice x_258.a0 m_259.s.length x_258.c0, .slice x_258.a1 m_259.r.length x_258.c1, .slice x_258.a2 m_259.w.length x_258.c2]) (cs' := [.slice x_258.a0 m_259.s.length x_258.c0, .slice x_258.a1 m_259.r.length x_258.c1, .slice x_258.a2 m_259.w.length x_258.c2]) rfl he_12 rfl rfl Tryz.sizeOf32 rfl rfl (Nat.le_of_ble_eq_true rfl) rfl) ?_
              rintro _ _ rfl
              refine JL.nil ?_
              refine JQ.seq ?_
              refine JC.ret ?_
              refine JQ.perm (pick_perm [3, 0, 0, 0] (A := [cb qb qa qc ql qp_246 qs_247, rC x_258.a0 x_258.c0 m_259.s, rS x_258.a1 x_258.c1 m_259.r, rS x_258.a2 x_258.c2 m_259.w]) (F := [mb b_9 x_258 m_259, mb b_1 x_258 m_259]) rfl).symm ?_
              refine Done.one (.inl rfl) rfl (RV.cell1 (LO.loadK 5 (vs := [.slice x_258.a0 m_259.s.length x_258.c0, .slice x_258.a1 m_259.r.length x_258.c1, .slice x_258.a2 m_259.w.length x_258.c2]) rfl he_12 Tryz.isAgg32 Tryz.sizeOf32 rfl rfl) ⟨_, he_12⟩) (List.sublist_append_left [cb qb qa qc ql qp_246 qs_247, rC x_258.a0 x_258.c0 m_259.s, rS x_258.a1 x_258.c1 m_259.r, rS x_258.a2 x_258.c2 m_259.w] [mb b_9 x_258 m_259, mb b_1 x_258 m_259]) ?_
              exact ⟨qp_246, qs_247, x_258, m_259, (by omega), (k_257.mono (by omega) (by omega)), rfl, rfl⟩
          · skip
            refine JX.op rfl rfl (JO.buildSlice (ps := [(0, str [51]), (1, str [120]), (2, str [])]) (cur := #[str [51], str [120], str []]) Tryz.underlying23 Tryz.sizeOf9 Tryz.zeroValue9 rfl (by kernel_rfl) (by decide) (by decide)) ?_
            rintro _ _ ⟨a_260, rfl, rfl⟩
            refine ⟨(by simp), ?_⟩
            refine JA.one (i := 2) (by kernel_rfl) ?_
            refine JX.op rfl rfl (JO.buildSlice (ps := [(0, str [116, 47, 120]), (1, str [103, 47, 49, 47, 104]), (2, str [116, 47, 50])]) (cur := #[str [116, 47, 120], str [103, 47, 49, 47, 104], str [116, 47, 50]]) Tryz.underlying23 Tryz.sizeOf9 Tryz.zeroValue9 rfl (by kernel_rfl) (by decide) (by decide)) ?_
            rintro _ _ ⟨a_262, rfl, rfl⟩
            refine ⟨(by simp), ?_⟩
            refine JA.one (i := 3) (by kernel_rfl) ?_
            refine JX.op rfl rfl (JO.call [2, 0] Tryz.call259 rfl (D_pick qb qa qc ql qp_171 qs_172 a_262 3 ([[116, 47, 120], [103, 47, 49, 47, 104], [116, 47, 50]] : List Str) (by omega) (by omega) (by simp) (by simp)) rfl (fun w hw => ⟨hw.seeOut_ hs_qa (hpre.2), hw.apart hs_qa (hpre.2) (by simp)⟩)) ?_
            rintro _ _ ⟨_, ⟨qp_269, qs_270, u_272, fq_271, f_273, rfl, rfl⟩, rfl⟩
            have hlu_272 : u_272.length ≤ 64 := by have hx_ := f_273; simp only [List.mem_cons, List.not_mem_nil, or_false] at hx_; rcases hx_ with hx_ | hx_ | hx_ <;> first | (rw [hx_]; decide) | (rw [hx_]; omega)
            refine ⟨(by simp), ?_⟩
            refine JA.one (i := 6) (by kernel_rfl) ?_
            refine JX.op rfl rfl (JO.call [0, 0] Tryz.call259 rfl (D_pick qb qa qc ql qp_269 qs_270 a_260 3 ([[51], [120], []] : List Str) (by omega) (by omega) (by simp) (by simp)) rfl (fun w hw => ⟨hw.seeOut_ hs_qa (hpre.2), hw.apart hs_qa (hpre.2) (by simp)⟩)) ?_
            rintro _ _ ⟨_, ⟨qp_281, qs_282, u_284, fq_283, f_285, rfl, rfl⟩, rfl⟩
            have hlu_284 : u_284.length ≤ 64 := by have hx_ := f_285; simp only [List.mem_cons, List.not_mem_nil, or_false] at hx_; rcases hx_ with hx_ | hx_ | hx_ <;> first | (rw [hx_]; decide) | (rw [hx_]; omega)
            refine ⟨(by simp), ?_⟩
            refine JA.one (i := 7) (by kernel_rfl) ?_
            refine JX.op rfl rfl (JO.call [2, 2, 2] Tryz.call232 rfl (N_sLay x1 mm hkmm (by omega) (by omega) u_272 u_284 (by omega)) rfl (fun _ _ => trivial)) ?_
            rintro _ _ ⟨_, ⟨x_293, m_294, e_291, k_292, rfl, rfl⟩, rfl⟩
            refine ⟨(by simp), ?_⟩
            refine JA.one (i := 8) (by kernel_rfl) ?_
            refine JX.last rfl rfl (by decide) (by kernel_rfl) (JO.store 4 (vs := [.slice x_293.a0 m_294.s.length x_293.c0, .slice x_293.a1 m_294.r.length x_293.c1, .slice x_293.a2 m_294.w.length x_293.c2]) (cs' := [.slice x_293.a0 m_294.s.length x_293.c0, .slice x_293.a1 m_294.r.length x_293.c1, .slice x_293.a2 m_294.w.length x_293.c2]) rfl he_13 rfl rfl Tryz.sizeOf32 rfl rfl (Nat.le_of_ble_eq_true rfl) rfl) ?_
            rintro _ _ rfl
            refine JQ.blockN ?_
            refine JQ.seq ?_
            refine JC.seq ?_
            refine JC.region ?_
            refine JL.ld rfl (LO.loadK 4 (vs := [.slice x_293.a0 m_294.s.length x_293.c0, .slice x_293.a1 m_294.r.length x_293.c1, .slice x_293.a2 m_294.w.length x_293.c2]) rfl he_13 Tryz.isAgg32 Tryz.sizeOf32 rfl rfl) ?_
            refine JL.op rfl (JO.store 5 (vs := [.slice x_293.a0 m_294.s.length x_293.c0, .slice x_293.a1 m_294.r.length x_293.c1, .slice x_293.a2 m_294.w.length x_293.c2]) (cs' := [.slice x_293.a0 m_294.s.length x_293.c0, .slice x_293.a1 m_294.r.length x_293.c1, .slice x_293.a2 m_294.w.length x_293.c2]) rfl he_12 rfl rfl Tryz.sizeOf32 rfl rfl (Nat.le_of_ble_eq_true rfl) rfl) ?_
            rintro _ _ rfl
            refine JL.nil ?_
            refine JQ.seq ?_
            refine JC.ret ?_
            refine JQ.perm (pick_perm [3, 0, 0, 0] (A := [cb qb qa qc ql qp_281 qs_282, rC x_293.a0 x_293.c0 m_294.s, rS x_293.a1 x_293.c1 m_294.r, rS x_293.a2 x_293.c2 m_294.w]) (F := [mb b_9 x_293 m_294, mb b_1 x_293 m_294]) rfl).symm ?_
            refine Done.one (.inl rfl) rfl (RV.cell1 (LO.loadK 5 (vs := [.slice x_293.a0 m_294.s.length x_293.c0, .slice x_293.a1 m_294.r.length x_293.c1, .slice x_293.a2 m_294.w.length x_293.c2]) rfl he_12 Tryz.isAgg32 Tryz.sizeOf32 rfl rfl) ⟨_, he_12⟩) (List.sublist_append_left [cb qb qa qc ql qp_281 qs_282, rC x_293.a0 x_293.c0 m_294.s, rS x_293.a1 x_293.c1 m_294.r, rS x_293.a2 x_293.c2 m_294.w] [mb b_9 x_293 m_294, mb b_1 x_293 m_294]) ?_
            exact ⟨qp_281, qs_282, x_293, m_294, (by omega), (k_292.mono (by omega) (by omega)), rfl, rfl⟩
        · skip
          refine JC.condF (congrArg Value.bool (decide_eq_false h_187)) ?_
          refine JC.skip ?_
          refine JQ.blockN ?_
          refine JQ.seq ?_
          refine JC.seq ?_
          refine JC.region ?_
          refine JL.ld rfl (LO.loadK 1 (vs := [.slice x1.a0 mm.s.length x1.c0, .slice x1.a1 mm.r.length x1.c1, .slice x1.a2 mm.w.length x1.c2]) rfl he_13 Tryz.isAgg32 Tryz.sizeOf32 rfl rfl) ?_
          refine JL.op rfl (JO.store 5 (vs := [.slice x1.a0 mm.s.length x1.c0, .slice x1.a1 mm.r.length x1.c1, .slice x1.a2 mm.w.length x1.c2]) (cs' := [.slice x1.a0 mm.s.length x1.c0, .slice x1.a1 mm.r.length x1.c1, .slice x1.a2 mm.w.length x1.c2]) rfl he_12 rfl rfl Tryz.sizeOf32 rfl rfl (Nat.le_of_ble_eq_true rfl) rfl) ?_
          rintro _ _ rfl
          refine JL.nil ?_
          refine JQ.seq ?_
          refine JC.ret ?_
          refine JQ.perm (pick_perm [0, 1, 1, 1] (A := [cb qb qa qc ql qp_171 qs_172, rC x1.a0 x1.c0 mm.s, rS x1.a1 x1.c1 mm.r, rS x1.a2 x1.c2 mm.w]) (F := [mb b_9 x1 mm, mb b_1 x1 mm]) rfl).symm ?_
          refine Done.one (.inl rfl) rfl (RV.cell1 (LO.loadK 5 (vs := [.slice x1.a0 mm.s.length x1.c0, .slice x1.a1 mm.r.length x1.c1, .slice x1.a2 mm.w.length x1.c2]) rfl he_12 Tryz.isAgg32 Tryz.sizeOf32 rfl rfl) ⟨_, he_12⟩) (List.sublist_append_left [cb qb qa qc ql qp_171 qs_172, rC x1.a0 x1.c0 mm.s, rS x1.a1 x1.c1 mm.r, rS x1.a2 x1.c2 mm.w] [mb b_9 x1 mm, mb b_1 x1 mm]) ?_
          exact ⟨qp_171, qs_172, x1, mm, (by omega), (hkmm.mono (by omega) (by omega)), rfl, rfl⟩

theorem D_dSendSignal (pa : Option Addr) (pc : Nat) (p : Str) (hp : p.length ≤ 1048576)  :
    Ct Tryz.prog 80 [.slice pa p.length pc] [] (fun w => Sees w (.slice pa p.length pc) 1 p.length (p.map encB)) (fun v A' => ∃ r0x r0 r1 r2, r0.ok (275600) (2624500) ∧ (-9223372036854775808 ≤ r1 ∧ r1 ≤ 9223372036854775807) ∧ (-9223372036854775808 ≤ r2 ∧ r2 ≤ 9223372036854775807) ∧ v = .tuple #[mv r0x r0, .int .i64 r1, .int .i64 r2] ∧ A' = mr r0x r0) := by
  refine Ct.intro Tryz.func80 rfl Tryz.ntmps80 (Nat.le_of_ble_eq_true rfl) fun w0 hpre => ?_
  have hs_pa : Sees w0 _ _ _ _ := hpre
  refine JC.seq ?_
  refine JC.region ?_
  refine JL.op rfl (JO.alloc (z := .agg #[.slice none 0 0, .slice none 0 0, .slice none 0 0]) (cs := [.slice none 0 0, .slice none 0 0, .slice none 0 0]) Tryz.zeroValue32 rfl) ?_
  rintro _ _ ⟨b_1, rfl, rfl⟩
  refine JL.pure rfl (PO.assign (v := .int .i64 0) rfl) ?_
  refine JL.pure rfl (PO.assign (v := .int .i64 0) rfl) ?_
  refine JL.nil ?_
  refine JQ.seq ?_
  refine JC.seq ?_
  refine JC.region ?_
  refine JL.pure rfl (PO.move (v := .slice pa p.length pc) rfl) ?_
  refine JL.op rfl (JO.call [] Tryz.call157 rfl (D_new pa pc p (by omega)) rfl (fun w hw => hw.seeOut_ hs_pa (fun _ _ => List.not_mem_nil))) ?_
  rintro _ _ ⟨_, ⟨c_2, qs_3, -, rfl, rfl⟩, rfl⟩
  refine JL.pure rfl (PO.assign (v := .pointer (some ⟨c_2, 0, none⟩)) rfl) ?_
  refine JL.nil ?_
  refine JQ.seq ?_
  refine JC.seq ?_
  refine JC.region ?_
  refine JL.pure rfl (PO.move (v := .pointer (some ⟨c_2, 0, none⟩)) rfl) ?_
  refine JL.op rfl (JO.call [0] Tryz.call188 rfl (D_mach10 c_2 pa pc p 0 qs_3 (by omega) (by omega)) rfl (fun w hw => ⟨hw.seeOut_ hs_pa (fun _ _ => List.not_mem_nil), hw.apart hs_pa (fun _ _ => List.not_mem_nil) (by simp)⟩)) ?_
  rintro _ _ ⟨_, ⟨qp_5, qs_6, x_8, m_9, fq_7, k_10, rfl, rfl⟩, rfl⟩
  refine JL.pure rfl (PO.move (v := .pointer (some ⟨c_2, 0, none⟩)) rfl) ?_
  refine JL.op rfl (JO.call [0] Tryz.call179 rfl (D_id09 c_2 pa pc p qp_5 qs_6 (by omega) (by omega)) rfl (fun w hw => ⟨hw.seeOut_ hs_pa (fun _ _ => List.not_mem_nil), hw.apart hs_pa (fun _ _ => List.not_mem_nil) (by simp)⟩)) ?_
  rintro _ _ ⟨_, ⟨qp_12, qs_13, n_15, fq_14, f_16, rfl, rfl⟩, rfl⟩
  refine JL.pure rfl (PO.move (v := .pointer (some ⟨c_2, 0, none⟩)) rfl) ?_
  refine JL.op rfl (JO.buildSlice (ps := [(0, .int .i64 1), (1, .int .i64 9), (2, .int .i64 31), (3, .int .i64 32), (4, .int .i64 0), (5, .int .i64 (-1))]) (cur := #[.int .i64 1, .int .i64 9, .int .i64 31, .int .i64 32, .int .i64 0, .int .i64 (-1)]) Tryz.underlying70 Tryz.sizeOf3 Tryz.zeroValue3 rfl (by kernel_rfl) (by decide) (by decide)) ?_
  rintro _ _ ⟨a_18, rfl, rfl⟩
  refine JL.op rfl (JO.call [1, 0] Tryz.call162 rfl (D_pickInt c_2 pa pc p qp_12 qs_13 a_18 6 ([1, 9, 31, 32, 0, -1] : List Int) (by omega) (by omega) (by simp) (by simp)) rfl (fun w hw => ⟨hw.seeOut_ hs_pa (fun _ _ => List.not_mem_nil), hw.apart hs_pa (fun _ _ => List.not_mem_nil) (by simp)⟩)) ?_
  rintro _ _ ⟨_, ⟨qp_19, qs_20, n_22, fq_21, f_23, rfl, rfl⟩, rfl⟩
  have hbn_22 : -9223372036854775808 ≤ n_22 ∧ n_22 ≤ 9223372036854775807 := by have hx_ := f_23; simp only [List.mem_cons, List.not_mem_nil, or_false] at hx_; omega
  refine JL.op rfl (JO.store 4 (vs := [.slice x_8.a0 m_9.s.length x_8.c0, .slice x_8.a1 m_9.r.length x_8.c1, .slice x_8.a2 m_9.w.length x_8.c2]) (cs' := [.slice x_8.a0 m_9.s.length x_8.c0, .slice x_8.a1 m_9.r.length x_8.c1, .slice x_8.a2 m_9.w.length x_8.c2]) rfl rfl rfl rfl Tryz.sizeOf32 rfl rfl (Nat.le_of_ble_eq_true rfl) rfl) ?_
  rintro _ _ rfl
  refine JL.pure rfl (PO.assign (v := .int .i64 n_15) rfl) ?_
  refine JL.pure rfl (PO.assign (v := .int .i64 n_22) rfl) ?_
  refine JL.nil ?_
  refine JQ.seq ?_
  refine JC.ret ?_
  refine JQ.perm (pick_perm [1, 1, 1] (A := [rC x_8.a0 x_8.c0 m_9.s, rS x_8.a1 x_8.c1 m_9.r, rS x_8.a2 x_8.c2 m_9.w]) (F := [cb c_2 pa pc p qp_19 qs_20, mb b_1 x_8 m_9]) rfl).symm ?_
  refine Done.three (.inl rfl) rfl (RV.cell1 (LO.loadK 4 (vs := [.slice x_8.a0 m_9.s.length x_8.c0, .slice x_8.a1 m_9.r.length x_8.c1, .slice x_8.a2 m_9.w.length x_8.c2]) rfl rfl Tryz.isAgg32 Tryz.sizeOf32 rfl rfl) ⟨_, rfl⟩) (RV.tmp (v := .int .i64 n_15) rfl) (RV.tmp (v := .int .i64 n_22) rfl) (List.sublist_append_left [rC x_8.a0 x_8.c0 m_9.s, rS x_8.a1 x_8.c1 m_9.r, rS x_8.a2 x_8.c2 m_9.w] [cb c_2 pa pc p qp_19 qs_20, mb b_1 x_8 m_9]) ?_
  exact ⟨x_8, m_9, n_15, n_22, (k_10.mono (by omega) (by omega)), (by first | omega | (simp only [List.length_append, List.length_cons, List.length_nil, List.length_take, List.length_drop]; omega)), (by first | omega | (simp only [List.length_append, List.length_cons, List.length_nil, List.length_take, List.length_drop]; omega)), rfl, rfl⟩

theorem D_dTakeSignal (pa : Option Addr) (pc : Nat) (p : Str) (hp : p.length ≤ 1048576)  :
    Ct Tryz.prog 83 [.slice pa p.length pc] [] (fun w => Sees w (.slice pa p.length pc) 1 p.length (p.map encB)) (fun v A' => ∃ r0x r0 r1, r0.ok (275600) (2624500) ∧ (-9223372036854775808 ≤ r1 ∧ r1 ≤ 9223372036854775807) ∧ v = .tuple #[mv r0x r0, .int .i64 r1] ∧ A' = mr r0x r0) := by
  refine Ct.intro Tryz.func83 rfl Tryz.ntmps83 (Nat.le_of_ble_eq_true rfl) fun w0 hpre => ?_
  have hs_pa : Sees w0 _ _ _ _ := hpre
  refine JC.seq ?_
  refine JC.region ?_
  refine JL.op rfl (JO.alloc (z := .agg #[.slice none 0 0, .slice none 0 0, .slice none 0 0]) (cs := [.slice none 0 0, .slice none 0 0, .slice none 0 0]) Tryz.zeroValue32 rfl) ?_
  rintro _ _ ⟨b_1, rfl, rfl⟩
  refine JL.pure rfl (PO.assign (v := .int .i64 0) rfl) ?_
  refine JL.nil ?_
  refine JQ.seq ?_
  refine JC.seq ?_
  refine JC.region ?_
  refine JL.pure rfl (PO.move (v := .slice pa p.length pc) rfl) ?_
  refine JL.op rfl (JO.call [] Tryz.call157 rfl (D_new pa pc p (by omega)) rfl (fun w hw => hw.seeOut_ hs_pa (fun _ _ => List.not_mem_nil))) ?_
  rintro _ _ ⟨_, ⟨c_2, qs_3, -, rfl, rfl⟩, rfl⟩
  refine JL.pure rfl (PO.assign (v := .pointer (some ⟨c_2, 0, none⟩)) rfl) ?_
  refine JL.nil ?_
  refine JQ.seq ?_
  refine JC.seq ?_
  refine JC.region ?_
  refine JL.pure rfl (PO.move (v := .pointer (some ⟨c_2, 0, none⟩)) rfl) ?_
  refine JL.op rfl (JO.call [0] Tryz.call188 rfl (D_mach10 c_2 pa pc p 0 qs_3 (by omega) (by omega)) rfl (fun w hw => ⟨hw.seeOut_ hs_pa (fun _ _ => List.not_mem_nil), hw.apart hs_pa (fun _ _ => List.not_mem_nil) (by simp)⟩)) ?_
  rintro _ _ ⟨_, ⟨qp_5, qs_6, x_8, m_9, fq_7, k_10, rfl, rfl⟩, rfl⟩
  refine JL.pure rfl (PO.move (v := .pointer (some ⟨c_2, 0, none⟩)) rfl) ?_
  refine JL.op rfl (JO.call [0] Tryz.call179 rfl (D_id09 c_2 pa pc p qp_5 qs_6 (by omega) (by omega)) rfl (fun w hw => ⟨hw.seeOut_ hs_pa (fun _ _ => List.not_mem_nil), hw.apart hs_pa (fun _ _ => List.not_mem_nil) (by simp)⟩)) ?_
  rintro _ _ ⟨_, ⟨qp_12, qs_13, n_15, fq_14, f_16, rfl, rfl⟩, rfl⟩
  refine JL.op rfl (JO.store 4 (vs := [.slice x_8.a0 m_9.s.length x_8.c0, .slice x_8.a1 m_9.r.length x_8.c1, .slice x_8.a2 m_9.w.length x_8.c2]) (cs' := [.slice x_8.a0 m_9.s.length x_8.c0, .slice x_8.a1 m_9.r.length x_8.c1, .slice x_8.a2 m_9.w.length x_8.c2]) rfl rfl rfl rfl Tryz.sizeOf32 rfl rfl (Nat.le_of_ble_eq_true rfl) rfl) ?_
  rintro _ _ rfl
  refine JL.pure rfl (PO.assign (v := .int .i64 n_15) rfl) ?_
  refine JL.nil ?_
  refine JQ.seq ?_
  refine JC.ret ?_
  refine JQ.perm (pick_perm [1, 1, 1] (A := [rC x_8.a0 x_8.c0 m_9.s, rS x_8.a1 x_8.c1 m_9.r, rS x_8.a2 x_8.c2 m_9.w]) (F := [cb c_2 pa pc p qp_12 qs_13, mb b_1 x_8 m_9]) rfl).symm ?_
  refine Done.two (.inl rfl) rfl (RV.cell1 (LO.loadK 4 (vs := [.slice x_8.a0 m_9.s.length x_8.c0, .slice x_8.a1 m_9.r.length x_8.c1, .slice x_8.a2 m_9.w.length x_8.c2]) rfl rfl Tryz.isAgg32 Tryz.sizeOf32 rfl rfl) ⟨_, rfl⟩) (RV.tmp (v := .int .i64 n_15) rfl) (List.sublist_append_left [rC x_8.a0 x_8.c0 m_9.s, rS x_8.a1 x_8.c1 m_9.r, rS x_8.a2 x_8.c2 m_9.w] [cb c_2 pa pc p qp_12 qs_13, mb b_1 x_8 m_9]) ?_
  exact ⟨x_8, m_9, n_15, (k_10.mono (by omega) (by omega)), (by first | omega | (simp only [List.length_append, List.length_cons, List.length_nil, List.length_take, List.length_drop]; omega)), rfl, rfl⟩

theorem D_dSetTimer (pa : Option Addr) (pc : Nat) (p : Str) (hp : p.length ≤ 1048576)  :
    Ct Tryz.prog 86 [.slice pa p.length pc] [] (fun w => Sees w (.slice pa p.length pc) 1 p.length (p.map encB)) (fun v A' => ∃ r0x r0 r1 r2, r0.ok (275600) (2624500) ∧ (-9223372036854775808 ≤ r1 ∧ r1 ≤ 9223372036854775807) ∧ (-9223372036854775808 ≤ r2 ∧ r2 ≤ 9223372036854775807) ∧ v = .tuple #[mv r0x r0, .int .i64 r1, .int .i64 r2] ∧ A' = mr r0x r0) := by
  refine Ct.intro Tryz.func86 rfl Tryz.ntmps86 (Nat.le_of_ble_eq_true rfl) fun w0 hpre => ?_
  have hs_pa : Sees w0 _ _ _ _ := hpre
  refine JC.seq ?_
  refine JC.region ?_
  refine JL.op rfl (JO.alloc (z := .agg #[.slice none 0 0, .slice none 0 0, .slice none 0 0]) (cs := [.slice none 0 0, .slice none 0 0, .slice none 0 0]) Tryz.zeroValue32 rfl) ?_
  rintro _ _ ⟨b_1, rfl, rfl⟩
  refine JL.pure rfl (PO.assign (v := .int .i64 0) rfl) ?_
  refine JL.pure rfl (PO.assign (v := .int .i64 0) rfl) ?_
  refine JL.nil ?_
  refine JQ.seq ?_
  refine JC.seq ?_
  refine JC.region ?_
  refine JL.pure rfl (PO.move (v := .slice pa p.length pc) rfl) ?_
  refine JL.op rfl (JO.call [] Tryz.call157 rfl (D_new pa pc p (by omega)) rfl (fun w hw => hw.seeOut_ hs_pa (fun _ _ => List.not_mem_nil))) ?_
  rintro _ _ ⟨_, ⟨c_2, qs_3, -, rfl, rfl⟩, rfl⟩
  refine JL.pure rfl (PO.assign (v := .pointer (some ⟨c_2, 0, none⟩)) rfl) ?_
  refine JL.nil ?_
  refine JQ.seq ?_
  refine JC.seq ?_
  refine JC.region ?_
  refine JL.pure rfl (PO.move (v := .pointer (some ⟨c_2, 0, none⟩)) rfl) ?_
  refine JL.op rfl (JO.call [0] Tryz.call188 rfl (D_mach10 c_2 pa pc p 0 qs_3 (by omega) (by omega)) rfl (fun w hw => ⟨hw.seeOut_ hs_pa (fun _ _ => List.not_mem_nil), hw.apart hs_pa (fun _ _ => List.not_mem_nil) (by simp)⟩)) ?_
  rintro _ _ ⟨_, ⟨qp_5, qs_6, x_8, m_9, fq_7, k_10, rfl, rfl⟩, rfl⟩
  refine JL.pure rfl (PO.move (v := .pointer (some ⟨c_2, 0, none⟩)) rfl) ?_
  refine JL.op rfl (JO.call [0] Tryz.call179 rfl (D_id09 c_2 pa pc p qp_5 qs_6 (by omega) (by omega)) rfl (fun w hw => ⟨hw.seeOut_ hs_pa (fun _ _ => List.not_mem_nil), hw.apart hs_pa (fun _ _ => List.not_mem_nil) (by simp)⟩)) ?_
  rintro _ _ ⟨_, ⟨qp_12, qs_13, n_15, fq_14, f_16, rfl, rfl⟩, rfl⟩
  refine JL.pure rfl (PO.move (v := .pointer (some ⟨c_2, 0, none⟩)) rfl) ?_
  refine JL.op rfl (JO.buildSlice (ps := [(0, .int .i64 0), (1, .int .i64 1), (2, .int .i64 9), (3, .int .i64 999), (4, .int .i64 1000), (5, .int .i64 (-1))]) (cur := #[.int .i64 0, .int .i64 1, .int .i64 9, .int .i64 999, .int .i64 1000, .int .i64 (-1)]) Tryz.underlying70 Tryz.sizeOf3 Tryz.zeroValue3 rfl (by kernel_rfl) (by decide) (by decide)) ?_
  rintro _ _ ⟨a_18, rfl, rfl⟩
  refine JL.op rfl (JO.call [1, 0] Tryz.call162 rfl (D_pickInt c_2 pa pc p qp_12 qs_13 a_18 6 ([0, 1, 9, 999, 1000, -1] : List Int) (by omega) (by omega) (by simp) (by simp)) rfl (fun w hw => ⟨hw.seeOut_ hs_pa (fun _ _ => List.not_mem_nil), hw.apart hs_pa (fun _ _ => List.not_mem_nil) (by simp)⟩)) ?_
  rintro _ _ ⟨_, ⟨qp_19, qs_20, n_22, fq_21, f_23, rfl, rfl⟩, rfl⟩
  have hbn_22 : -9223372036854775808 ≤ n_22 ∧ n_22 ≤ 9223372036854775807 := by have hx_ := f_23; simp only [List.mem_cons, List.not_mem_nil, or_false] at hx_; omega
  refine JL.op rfl (JO.store 4 (vs := [.slice x_8.a0 m_9.s.length x_8.c0, .slice x_8.a1 m_9.r.length x_8.c1, .slice x_8.a2 m_9.w.length x_8.c2]) (cs' := [.slice x_8.a0 m_9.s.length x_8.c0, .slice x_8.a1 m_9.r.length x_8.c1, .slice x_8.a2 m_9.w.length x_8.c2]) rfl rfl rfl rfl Tryz.sizeOf32 rfl rfl (Nat.le_of_ble_eq_true rfl) rfl) ?_
  rintro _ _ rfl
  refine JL.pure rfl (PO.assign (v := .int .i64 n_15) rfl) ?_
  refine JL.pure rfl (PO.assign (v := .int .i64 n_22) rfl) ?_
  refine JL.nil ?_
  refine JQ.seq ?_
  refine JC.ret ?_
  refine JQ.perm (pick_perm [1, 1, 1] (A := [rC x_8.a0 x_8.c0 m_9.s, rS x_8.a1 x_8.c1 m_9.r, rS x_8.a2 x_8.c2 m_9.w]) (F := [cb c_2 pa pc p qp_19 qs_20, mb b_1 x_8 m_9]) rfl).symm ?_
  refine Done.three (.inl rfl) rfl (RV.cell1 (LO.loadK 4 (vs := [.slice x_8.a0 m_9.s.length x_8.c0, .slice x_8.a1 m_9.r.length x_8.c1, .slice x_8.a2 m_9.w.length x_8.c2]) rfl rfl Tryz.isAgg32 Tryz.sizeOf32 rfl rfl) ⟨_, rfl⟩) (RV.tmp (v := .int .i64 n_15) rfl) (RV.tmp (v := .int .i64 n_22) rfl) (List.sublist_append_left [rC x_8.a0 x_8.c0 m_9.s, rS x_8.a1 x_8.c1 m_9.r, rS x_8.a2 x_8.c2 m_9.w] [cb c_2 pa pc p qp_19 qs_20, mb b_1 x_8 m_9]) ?_
  exact ⟨x_8, m_9, n_15, n_22, (k_10.mono (by omega) (by omega)), (by first | omega | (simp only [List.length_append, List.length_cons, List.length_nil, List.length_take, List.length_drop]; omega)), (by first | omega | (simp only [List.length_append, List.length_cons, List.length_nil, List.length_take, List.length_drop]; omega)), rfl, rfl⟩

theorem D_dTick (pa : Option Addr) (pc : Nat) (p : Str) (hp : p.length ≤ 1048576)  :
    Ct Tryz.prog 89 [.slice pa p.length pc] [] (fun w => Sees w (.slice pa p.length pc) 1 p.length (p.map encB)) (fun v A' => ∃ r0x r0 r1, r0.ok (275600) (2624500) ∧ (-9223372036854775808 ≤ r1 ∧ r1 ≤ 9223372036854775807) ∧ v = .tuple #[mv r0x r0, .int .i64 r1] ∧ A' = mr r0x r0) := by
  refine Ct.intro Tryz.func89 rfl Tryz.ntmps89 (Nat.le_of_ble_eq_true rfl) fun w0 hpre => ?_
  have hs_pa : Sees w0 _ _ _ _ := hpre
  refine JC.seq ?_
  refine JC.region ?_
  refine JL.op rfl (JO.alloc (z := .agg #[.slice none 0 0, .slice none 0 0, .slice none 0 0]) (cs := [.slice none 0 0, .slice none 0 0, .slice none 0 0]) Tryz.zeroValue32 rfl) ?_
  rintro _ _ ⟨b_1, rfl, rfl⟩
  refine JL.pure rfl (PO.assign (v := .int .i64 0) rfl) ?_
  refine JL.nil ?_
  refine JQ.seq ?_
  refine JC.seq ?_
  refine JC.region ?_
  refine JL.pure rfl (PO.move (v := .slice pa p.length pc) rfl) ?_
  refine JL.op rfl (JO.call [] Tryz.call157 rfl (D_new pa pc p (by omega)) rfl (fun w hw => hw.seeOut_ hs_pa (fun _ _ => List.not_mem_nil))) ?_
  rintro _ _ ⟨_, ⟨c_2, qs_3, -, rfl, rfl⟩, rfl⟩
  refine JL.pure rfl (PO.assign (v := .pointer (some ⟨c_2, 0, none⟩)) rfl) ?_
  refine JL.nil ?_
  refine JQ.seq ?_
  refine JC.seq ?_
  refine JC.region ?_
  refine JL.pure rfl (PO.move (v := .pointer (some ⟨c_2, 0, none⟩)) rfl) ?_
  refine JL.op rfl (JO.call [0] Tryz.call188 rfl (D_mach10 c_2 pa pc p 0 qs_3 (by omega) (by omega)) rfl (fun w hw => ⟨hw.seeOut_ hs_pa (fun _ _ => List.not_mem_nil), hw.apart hs_pa (fun _ _ => List.not_mem_nil) (by simp)⟩)) ?_
  rintro _ _ ⟨_, ⟨qp_5, qs_6, x_8, m_9, fq_7, k_10, rfl, rfl⟩, rfl⟩
  refine JL.pure rfl (PO.move (v := .pointer (some ⟨c_2, 0, none⟩)) rfl) ?_
  refine JL.op rfl (JO.buildSlice (ps := [(0, .int .i64 1), (1, .int .i64 2), (2, .int .i64 9), (3, .int .i64 999), (4, .int .i64 0), (5, .int .i64 (-1)), (6, .int .i64 9223372036854775807)]) (cur := #[.int .i64 1, .int .i64 2, .int .i64 9, .int .i64 999, .int .i64 0, .int .i64 (-1), .int .i64 9223372036854775807]) Tryz.underlying70 Tryz.sizeOf3 Tryz.zeroValue3 rfl (by kernel_rfl) (by decide) (by decide)) ?_
  rintro _ _ ⟨a_12, rfl, rfl⟩
  refine JL.op rfl (JO.call [1, 0] Tryz.call162 rfl (D_pickInt c_2 pa pc p qp_5 qs_6 a_12 7 ([1, 2, 9, 999, 0, -1, 9223372036854775807] : List Int) (by omega) (by omega) (by simp) (by simp)) rfl (fun w hw => ⟨hw.seeOut_ hs_pa (fun _ _ => List.not_mem_nil), hw.apart hs_pa (fun _ _ => List.not_mem_nil) (by simp)⟩)) ?_
  rintro _ _ ⟨_, ⟨qp_13, qs_14, n_16, fq_15, f_17, rfl, rfl⟩, rfl⟩
  have hbn_16 : -9223372036854775808 ≤ n_16 ∧ n_16 ≤ 9223372036854775807 := by have hx_ := f_17; simp only [List.mem_cons, List.not_mem_nil, or_false] at hx_; omega
  refine JL.op rfl (JO.store 4 (vs := [.slice x_8.a0 m_9.s.length x_8.c0, .slice x_8.a1 m_9.r.length x_8.c1, .slice x_8.a2 m_9.w.length x_8.c2]) (cs' := [.slice x_8.a0 m_9.s.length x_8.c0, .slice x_8.a1 m_9.r.length x_8.c1, .slice x_8.a2 m_9.w.length x_8.c2]) rfl rfl rfl rfl Tryz.sizeOf32 rfl rfl (Nat.le_of_ble_eq_true rfl) rfl) ?_
  rintro _ _ rfl
  refine JL.pure rfl (PO.assign (v := .int .i64 n_16) rfl) ?_
  refine JL.nil ?_
  refine JQ.seq ?_
  refine JC.ret ?_
  refine JQ.perm (pick_perm [1, 1, 1] (A := [rC x_8.a0 x_8.c0 m_9.s, rS x_8.a1 x_8.c1 m_9.r, rS x_8.a2 x_8.c2 m_9.w]) (F := [cb c_2 pa pc p qp_13 qs_14, mb b_1 x_8 m_9]) rfl).symm ?_
  refine Done.two (.inl rfl) rfl (RV.cell1 (LO.loadK 4 (vs := [.slice x_8.a0 m_9.s.length x_8.c0, .slice x_8.a1 m_9.r.length x_8.c1, .slice x_8.a2 m_9.w.length x_8.c2]) rfl rfl Tryz.isAgg32 Tryz.sizeOf32 rfl rfl) ⟨_, rfl⟩) (RV.tmp (v := .int .i64 n_16) rfl) (List.sublist_append_left [rC x_8.a0 x_8.c0 m_9.s, rS x_8.a1 x_8.c1 m_9.r, rS x_8.a2 x_8.c2 m_9.w] [cb c_2 pa pc p qp_13 qs_14, mb b_1 x_8 m_9]) ?_
  exact ⟨x_8, m_9, n_16, (k_10.mono (by omega) (by omega)), (by first | omega | (simp only [List.length_append, List.length_cons, List.length_nil, List.length_take, List.length_drop]; omega)), rfl, rfl⟩

theorem D_dClockOf (pa : Option Addr) (pc : Nat) (p : Str) (hp : p.length ≤ 1048576)  :
    Ct Tryz.prog 92 [.slice pa p.length pc] [] (fun w => Sees w (.slice pa p.length pc) 1 p.length (p.map encB)) (fun v A' => ∃ r0x r0, r0.ok (275600) (2624500) ∧ v = mv r0x r0 ∧ A' = mr r0x r0) := by
  refine Ct.intro Tryz.func92 rfl Tryz.ntmps92 (Nat.le_of_ble_eq_true rfl) fun w0 hpre => ?_
  have hs_pa : Sees w0 _ _ _ _ := hpre
  refine JC.seq ?_
  refine JC.region ?_
  refine JL.op rfl (JO.alloc (z := .agg #[.slice none 0 0, .slice none 0 0, .slice none 0 0]) (cs := [.slice none 0 0, .slice none 0 0, .slice none 0 0]) Tryz.zeroValue32 rfl) ?_
  rintro _ _ ⟨b_1, rfl, rfl⟩
  refine JL.nil ?_
  refine JQ.seq ?_
  refine JC.seq ?_
  refine JC.region ?_
  refine JL.pure rfl (PO.move (v := .slice pa p.length pc) rfl) ?_
  refine JL.op rfl (JO.call [] Tryz.call157 rfl (D_new pa pc p (by omega)) rfl (fun w hw => hw.seeOut_ hs_pa (fun _ _ => List.not_mem_nil))) ?_
  rintro _ _ ⟨_, ⟨c_2, qs_3, -, rfl, rfl⟩, rfl⟩
  refine JL.op rfl (JO.call [0] Tryz.call188 rfl (D_mach10 c_2 pa pc p 0 qs_3 (by omega) (by omega)) rfl (fun w hw => ⟨hw.seeOut_ hs_pa (fun _ _ => List.not_mem_nil), hw.apart hs_pa (fun _ _ => List.not_mem_nil) (by simp)⟩)) ?_
  rintro _ _ ⟨_, ⟨qp_5, qs_6, x_8, m_9, fq_7, k_10, rfl, rfl⟩, rfl⟩
  refine JL.op rfl (JO.store 4 (vs := [.slice x_8.a0 m_9.s.length x_8.c0, .slice x_8.a1 m_9.r.length x_8.c1, .slice x_8.a2 m_9.w.length x_8.c2]) (cs' := [.slice x_8.a0 m_9.s.length x_8.c0, .slice x_8.a1 m_9.r.length x_8.c1, .slice x_8.a2 m_9.w.length x_8.c2]) rfl rfl rfl rfl Tryz.sizeOf32 rfl rfl (Nat.le_of_ble_eq_true rfl) rfl) ?_
  rintro _ _ rfl
  refine JL.nil ?_
  refine JQ.seq ?_
  refine JC.ret ?_
  refine JQ.perm (pick_perm [1, 1, 1] (A := [rC x_8.a0 x_8.c0 m_9.s, rS x_8.a1 x_8.c1 m_9.r, rS x_8.a2 x_8.c2 m_9.w]) (F := [cb c_2 pa pc p qp_5 qs_6, mb b_1 x_8 m_9]) rfl).symm ?_
  refine Done.one (.inl rfl) rfl (RV.cell1 (LO.loadK 4 (vs := [.slice x_8.a0 m_9.s.length x_8.c0, .slice x_8.a1 m_9.r.length x_8.c1, .slice x_8.a2 m_9.w.length x_8.c2]) rfl rfl Tryz.isAgg32 Tryz.sizeOf32 rfl rfl) ⟨_, rfl⟩) (List.sublist_append_left [rC x_8.a0 x_8.c0 m_9.s, rS x_8.a1 x_8.c1 m_9.r, rS x_8.a2 x_8.c2 m_9.w] [cb c_2 pa pc p qp_5 qs_6, mb b_1 x_8 m_9]) ?_
  exact ⟨x_8, m_9, (k_10.mono (by omega) (by omega)), rfl, rfl⟩

end Go.Proofs.YtenfajgpdhgknaaGreatDoor
