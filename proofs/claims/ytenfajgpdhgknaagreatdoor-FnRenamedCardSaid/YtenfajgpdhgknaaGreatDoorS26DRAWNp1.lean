/-
  Drawing machines with names, files, pipes, processes, signals, output (part 26).
-/
import Derived.Test.YtenfajgpdhgknaaGreatDoorS22MACH
import Derived.Test.YtenfajgpdhgknaaGreatDoorS17NAMES
import Derived.Test.YtenfajgpdhgknaaGreatDoorSx
import Derived.Test.YtenfajgpdhgknaaGreatDoorS14MACHp1
import Derived.Test.YtenfajgpdhgknaaGreatDoorDatF
import Derived.Lib.MinMax
set_option linter.unusedSimpArgs false
set_option linter.unusedVariables false
set_option linter.unnecessarySimpa false
namespace Go.Proofs.YtenfajgpdhgknaaGreatDoor
open Go Go.RowKit
attribute [local irreducible] JL JC JQ JO LO PO JA JX Ct

theorem D_name (qb : Nat) (qa : Option Addr) (qc : Nat) (ql : Str) (qp : Nat) (qs : Int) (hql : ql.length ≤ 1048576) (hqp : qp ≤ ql.length)  :
    Ct Tryz.prog 251 [.pointer (some ⟨qb, 0, none⟩)] [cb qb qa qc ql qp qs] (fun w => seesC w qa qc ql [cb qb qa qc ql qp qs]) (fun v A' => ∃ qp' qs' r0, qp' ≤ ql.length ∧ (r0.length ≤ 64) ∧ v = str r0 ∧ A' = [cb qb qa qc ql qp' qs']) := by
  refine Ct.intro Tryz.func251 rfl Tryz.ntmps251 (Nat.le_of_ble_eq_true rfl) fun w0 hpre => ?_
  have hs_qa : Sees w0 _ _ _ _ := hpre.1
  refine JC.seq ?_
  refine JC.region ?_
  refine JL.pure rfl (PO.assign (v := str []) rfl) ?_
  refine JL.nil ?_
  refine JQ.seq ?_
  refine JC.seq ?_
  refine JC.seq ?_
  refine JC.region ?_
  refine JL.pure rfl (PO.move (v := .pointer (some ⟨qb, 0, none⟩)) rfl) ?_
  refine JL.op rfl (JO.call [0] Tryz.call199 rfl (D_once qb qa qc ql qp qs (by omega) (by omega) 16 (by omega)) rfl (fun w hw => ⟨hw.seeOut_ hs_qa (hpre.2), hw.apart hs_qa (hpre.2) (by simp)⟩)) ?_
  rintro _ _ ⟨_, ⟨qp_1, qs_2, b_4, fq_3, rfl, rfl⟩, rfl⟩
  refine JL.nil ?_
  refine JQ.seq ?_
  rcases Bool.eq_false_or_eq_true (b_4) with h_6 | h_6
  · skip
    refine JC.condT (congrArg Value.bool h_6) ?_
    refine JC.seq ?_
    refine JC.region ?_
    refine JL.pure rfl (PO.move (v := .pointer (some ⟨qb, 0, none⟩)) rfl) ?_
    refine JL.op rfl (JO.buildSlice (ps := [(0, str []), (1, str [65]), (2, str [97, 32, 98]), (3, str [97, 98, 99, 100, 101, 102, 103, 104, 105, 106, 107, 108]), (4, str [97, 98, 99, 100, 101, 102, 103, 104, 105, 106, 107, 108, 109]), (5, str [97, 47, 98])]) (cur := #[str [], str [65], str [97, 32, 98], str [97, 98, 99, 100, 101, 102, 103, 104, 105, 106, 107, 108], str [97, 98, 99, 100, 101, 102, 103, 104, 105, 106, 107, 108, 109], str [97, 47, 98]]) Tryz.underlying23 Tryz.sizeOf9 Tryz.zeroValue9 rfl (by kernel_rfl) (by decide) (by decide)) ?_
    rintro _ _ ⟨a_7, rfl, rfl⟩
    refine JL.op rfl (JO.call [1, 0] Tryz.call259 rfl (D_pick qb qa qc ql qp_1 qs_2 a_7 6 ([[], [65], [97, 32, 98], [97, 98, 99, 100, 101, 102, 103, 104, 105, 106, 107, 108], [97, 98, 99, 100, 101, 102, 103, 104, 105, 106, 107, 108, 109], [97, 47, 98]] : List Str) (by omega) (by omega) (by simp) (by simp)) rfl (fun w hw => ⟨hw.seeOut_ hs_qa (hpre.2), hw.apart hs_qa (hpre.2) (by simp)⟩)) ?_
    rintro _ _ ⟨_, ⟨qp_8, qs_9, u_11, fq_10, f_12, rfl, rfl⟩, rfl⟩
    have hlu_11 : u_11.length ≤ 64 := by have hx_ := f_12; simp only [List.mem_cons, List.not_mem_nil, or_false] at hx_; rcases hx_ with hx_ | hx_ | hx_ | hx_ | hx_ | hx_ <;> first | (rw [hx_]; decide) | (rw [hx_]; omega)
    refine JL.pure rfl (PO.assign (v := str u_11) rfl) ?_
    refine JL.nil ?_
    refine JQ.seq ?_
    refine JC.ret ?_
    refine JQ.thenRet ?_
    refine Done.one (.inl rfl) rfl (RV.tmp (v := str u_11) rfl) (List.Sublist.refl _) ?_
    exact ⟨qp_8, qs_9, u_11, (by omega), (by first | omega | (simp only [List.length_append, List.length_cons, List.length_nil, List.length_take, List.length_drop]; omega)), rfl, rfl⟩
  · skip
    refine JC.condF (congrArg Value.bool h_6) ?_
    refine JC.skip ?_
    refine JQ.seq ?_
    refine JC.seq ?_
    refine JC.region ?_
    refine JL.pure rfl (PO.move (v := .pointer (some ⟨qb, 0, none⟩)) rfl) ?_
    refine JL.op rfl (JO.buildSlice (ps := [(0, str [120]), (1, str [121]), (2, str [108, 111, 103]), (3, str [97, 46, 98])]) (cur := #[str [120], str [121], str [108, 111, 103], str [97, 46, 98]]) Tryz.underlying23 Tryz.sizeOf9 Tryz.zeroValue9 rfl (by kernel_rfl) (by decide) (by decide)) ?_
    rintro _ _ ⟨a_14, rfl, rfl⟩
    refine JL.op rfl (JO.call [1, 0] Tryz.call259 rfl (D_pick qb qa qc ql qp_1 qs_2 a_14 4 ([[120], [121], [108, 111, 103], [97, 46, 98]] : List Str) (by omega) (by omega) (by simp) (by simp)) rfl (fun w hw => ⟨hw.seeOut_ hs_qa (hpre.2), hw.apart hs_qa (hpre.2) (by simp)⟩)) ?_
    rintro _ _ ⟨_, ⟨qp_15, qs_16, u_18, fq_17, f_19, rfl, rfl⟩, rfl⟩
    have hlu_18 : u_18.length ≤ 64 := by have hx_ := f_19; simp only [List.mem_cons, List.not_mem_nil, or_false] at hx_; rcases hx_ with hx_ | hx_ | hx_ | hx_ <;> first | (rw [hx_]; decide) | (rw [hx_]; omega)
    refine JL.pure rfl (PO.assign (v := str u_18) rfl) ?_
    refine JL.nil ?_
    refine JQ.seq ?_
    refine JC.ret ?_
    refine Done.one (.inl rfl) rfl (RV.tmp (v := str u_18) rfl) (List.Sublist.refl _) ?_
    exact ⟨qp_15, qs_16, u_18, (by omega), (by first | omega | (simp only [List.length_append, List.length_cons, List.length_nil, List.length_take, List.length_drop]; omega)), rfl, rfl⟩

theorem D_mach06 (qb : Nat) (qa : Option Addr) (qc : Nat) (ql : Str) (qp : Nat) (qs : Int) (hql : ql.length ≤ 1048576) (hqp : qp ≤ ql.length)  :
    Ct Tryz.prog 156 [.pointer (some ⟨qb, 0, none⟩)] [cb qb qa qc ql qp qs] (fun w => seesC w qa qc ql [cb qb qa qc ql qp qs]) (fun v A' => ∃ qp' qs' r0x r0, qp' ≤ ql.length ∧ r0.ok (30) (500) ∧ v = mv r0x r0 ∧ A' = cb qb qa qc ql qp' qs' :: mr r0x r0) := by
  refine Ct.intro Tryz.func156 rfl Tryz.ntmps156 (Nat.le_of_ble_eq_true rfl) fun w0 hpre => ?_
  have hs_qa : Sees w0 _ _ _ _ := hpre.1
  refine JC.seq ?_
  refine JC.region ?_
  refine JL.op rfl (JO.alloc (z := .agg #[.slice none 0 0, .slice none 0 0, .slice none 0 0]) (cs := [.slice none 0 0, .slice none 0 0, .slice none 0 0]) Tryz.zeroValue32 rfl) ?_
  rintro _ _ ⟨b_1, rfl, rfl⟩
  refine JL.nil ?_
  refine JQ.seq ?_
  refine JC.seq ?_
  refine JC.region ?_
  refine JL.op rfl (JO.buildSlice (ps := []) (cur := #[]) Tryz.underlying29 Tryz.sizeOf113 Tryz.zeroValue113 rfl (by kernel_rfl) (by decide) (by decide)) ?_
  rintro _ _ ⟨a_2, rfl, rfl⟩
  refine JL.op rfl (JO.call [] Tryz.call147 rfl (D_machOf a_2 0 ([] : List Cell) (by first | omega | simp) 0 ⟨by simp, fun c hc => by cases hc⟩) rfl (fun w hw => hw.see (i := 0) rfl)) ?_
  rintro _ _ ⟨_, ⟨x_3, m_4, e_6, k_5, rfl, rfl⟩, rfl⟩
  refine JL.op rfl (JO.alloc (z := .agg #[.slice none 0 0, .slice none 0 0, .slice none 0 0]) (cs := [.slice none 0 0, .slice none 0 0, .slice none 0 0]) Tryz.zeroValue32 rfl) ?_
  rintro _ _ ⟨b_7, rfl, rfl⟩
  refine JL.op rfl (JO.store 0 (vs := [.slice x_3.a0 m_4.s.length x_3.c0, .slice x_3.a1 m_4.r.length x_3.c1, .slice x_3.a2 m_4.w.length x_3.c2]) (cs' := [.slice x_3.a0 m_4.s.length x_3.c0, .slice x_3.a1 m_4.r.length x_3.c1, .slice x_3.a2 m_4.w.length x_3.c2]) rfl rfl rfl rfl Tryz.sizeOf32 rfl rfl (Nat.le_of_ble_eq_true rfl) rfl) ?_
  rintro _ _ rfl
  refine JL.nil ?_
  refine JQ.seq ?_
  refine JC.seq ?_
  refine JC.seq ?_
  refine JC.region ?_
  refine JL.pure rfl (PO.move (v := .pointer (some ⟨qb, 0, none⟩)) rfl) ?_
  refine JL.op rfl (JO.call [6] Tryz.call199 rfl (D_once qb qa qc ql qp qs (by omega) (by omega) 12 (by omega)) rfl (fun w hw => ⟨hw.seeOut_ hs_qa (hpre.2), hw.apart hs_qa (hpre.2) (by simp)⟩)) ?_
  rintro _ _ ⟨_, ⟨qp_8, qs_9, b_11, fq_10, rfl, rfl⟩, rfl⟩
  refine JL.nil ?_
  refine JQ.seq ?_
  rcases Bool.eq_false_or_eq_true (b_11) with h_13 | h_13
  · skip
    refine JC.condT (congrArg Value.bool h_13) ?_
    refine JC.regionA [mb b_7 x_3 m_4] 4 mixed (by simp) ?_
    refine JA.take 0 rfl (by kernel_rfl) (NP.th NP.body) (by kernel_rfl) (by kernel_rfl) (by kernel_rfl) rfl (LO.loadK 0 (vs := [.slice x_3.a0 m_4.s.length x_3.c0, .slice x_3.a1 m_4.r.length x_3.c1, .slice x_3.a2 m_4.w.length x_3.c2]) rfl rfl Tryz.isAgg32 Tryz.sizeOf32 rfl rfl) ?_
    refine JA.takeP 1 rfl (by kernel_rfl) (NP.th NP.body) (by kernel_rfl) (by kernel_rfl) rfl (PO.move (v := .pointer (some ⟨qb, 0, none⟩)) rfl) ?_
    refine JA.one (i := 2) (by kernel_rfl) ?_
    refine JX.op rfl rfl (JO.call [0] Tryz.call173 rfl (D_below qb qa qc ql qp_8 qs_9 (by omega) (by omega) 3 (by omega)) rfl (fun w hw => ⟨hw.seeOut_ hs_qa (hpre.2), hw.apart hs_qa (hpre.2) (by simp)⟩)) ?_
    rintro _ _ ⟨_, ⟨qp_20, qs_21, n_23, fq_22, f_24, rfl, rfl⟩, rfl⟩
    refine ⟨(by simp), ?_⟩
    refine JA.takeP 3 rfl (by kernel_rfl) (NP.th NP.body) (by kernel_rfl) (by kernel_rfl) rfl (PO.add (c := ((18 + n_23 : Nat) : Int)) rfl rfl (wr (by omega))) ?_
    refine JA.one (i := 4) (by kernel_rfl) ?_
    refine JX.late rfl rfl (by decide) (by kernel_rfl) (JO.call [2, 2, 2] Tryz.call233 rfl (N_sSetNum x_3 m_4 k_5 (by omega) (by omega) [99, 47, 102, 105, 108, 101] ((18 + n_23 : Nat) : Int) (by decide) (by omega)) rfl (fun _ _ => trivial)) ?_
    rintro _ _ ⟨_, ⟨x_32, m_33, e_30, k_31, rfl, rfl⟩, rfl⟩
    refine JA.one (i := 5) (by kernel_rfl) ?_
    refine JX.last rfl rfl (by decide) (by kernel_rfl) (JO.store 4 (vs := [.slice x_32.a0 m_33.s.length x_32.c0, .slice x_32.a1 m_33.r.length x_32.c1, .slice x_32.a2 m_33.w.length x_32.c2]) (cs' := [.slice x_32.a0 m_33.s.length x_32.c0, .slice x_32.a1 m_33.r.length x_32.c1, .slice x_32.a2 m_33.w.length x_32.c2]) rfl rfl rfl rfl Tryz.sizeOf32 rfl rfl (Nat.le_of_ble_eq_true rfl) rfl) ?_
    rintro _ _ rfl
    refine JQ.seq ?_
    refine JC.seq ?_
    refine JC.seq ?_
    refine JC.region ?_
    refine JL.pure rfl (PO.assign (v := .int .i64 0) rfl) ?_
    refine JL.nil ?_
    refine JQ.seq ?_
    refine JC.block ?_
    refine JC.loop (fun k_ e_ L_ => ∃ i_ : Nat, ∃ p_q : Nat, ∃ s_q : Int, ∃ x1 : MA, ∃ mm : MS, (p_q ≤ ql.length) ∧ (mm.ok (1 + 3 * i_) (1 + 60 * i_)) ∧ (i_ ≤ 7) ∧ e_ 0 = .pointer (some ⟨qb, 0, none⟩) ∧ e_ 2 = .pointer (some ⟨b_1, 0, none⟩) ∧ e_ 3 = .pointer (some ⟨b_7, 0, none⟩) ∧ e_ 4 = .int .i64 ((i_ : Nat) : Int) ∧ L_ = [rC x1.a0 x1.c0 mm.s, rS x1.a1 x1.c1 mm.r, rS x1.a2 x1.c2 mm.w, cb qb qa qc ql p_q s_q, mb b_7 x1 mm, Res.row (.slice a_2 0 0) 113 2 0 (([] : List Cell).flatMap encC), bk b_1 32 [.slice none 0 0, .slice none 0 0, .slice none 0 0]] ∧ k_ = 8 - i_) _ ⟨0, qp_20, qs_21, x_32, m_33, (by omega), (k_31.mono (by omega) (by omega)), (by omega), rfl, rfl, rfl, rfl, rfl, rfl⟩ ?_
    rintro _ e_34 _ ⟨i_, p_q, s_q, x1, mm, hpq_, hkmm, hi, he_35, he_36, he_37, he_38, rfl, rfl⟩
    refine JC.seq ?_
    refine JC.seq ?_
    refine JC.region ?_
    refine JL.pure rfl (PO.move (v := .int .i64 ((i_ : Nat) : Int)) he_38) ?_
    refine JL.pure rfl (PO.move (v := .pointer (some ⟨qb, 0, none⟩)) he_35) ?_
    refine JL.op rfl (JO.call [3] Tryz.call173 rfl (D_below qb qa qc ql p_q s_q (by omega) (by omega) 7 (by omega)) rfl (fun w hw => ⟨hw.seeOut_ hs_qa (hpre.2), hw.apart hs_qa (hpre.2) (by simp)⟩)) ?_
    rintro _ _ ⟨_, ⟨qp_39, qs_40, n_42, fq_41, f_43, rfl, rfl⟩, rfl⟩
    refine JL.pure rfl (PO.lss rfl rfl) ?_
    refine JL.nil ?_
    refine JQ.seq ?_
    by_cases h_45 : ((i_ : Nat) : Int) < ((n_42 : Nat) : Int)
    · skip
      refine JC.condT (congrArg Value.bool (decide_eq_true h_45)) ?_
      refine JC.skip ?_
      refine JQ.seq ?_
      refine JC.seq ?_
      refine JC.block ?_
      refine JC.seq ?_
      refine JC.region ?_
      refine JL.pure rfl (PO.move (v := .pointer (some ⟨qb, 0, none⟩)) he_35) ?_
      refine JL.op rfl (JO.call [0] Tryz.call173 rfl (D_below qb qa qc ql qp_39 qs_40 (by omega) (by omega) 6 (by omega)) rfl (fun w hw => ⟨hw.seeOut_ hs_qa (hpre.2), hw.apart hs_qa (hpre.2) (by simp)⟩)) ?_
      rintro _ _ ⟨_, ⟨qp_46, qs_47, n_49, fq_48, f_50, rfl, rfl⟩, rfl⟩
      refine JL.nil ?_
      refine JQ.seq ?_
      refine JC.block ?_
      refine JC.seq ?_
      refine JC.region ?_
      refine JL.pure rfl (PO.eqlI rfl rfl) ?_
      refine JL.pure rfl (PO.assign (v := .bool (decide (((n_49 : Nat) : Int) = 0))) rfl) ?_
      refine JL.nil ?_
      refine JQ.seq ?_
      by_cases h_52 : ((n_49 : Nat) : Int) = 0
      · skip
        refine JC.condT (congrArg Value.bool (decide_eq_true h_52)) ?_
        refine JC.regionA [mb b_7 x1 mm] 9 mixed (by simp) ?_
        refine JA.take 0 rfl (by kernel_rfl) (NP.bl (NP.bl (NP.th (NP.th (NP.bl (NP.th NP.body)))))) (by kernel_rfl) (by kernel_rfl) (by kernel_rfl) rfl (LO.loadK 0 (vs := [.slice x1.a0 mm.s.length x1.c0, .slice x1.a1 mm.r.length x1.c1, .slice x1.a2 mm.w.length x1.c2]) rfl he_37 Tryz.isAgg32 Tryz.sizeOf32 rfl rfl) ?_
        refine JA.takeP 1 rfl (by kernel_rfl) (NP.bl (NP.bl (NP.th (NP.th (NP.bl (NP.th NP.body)))))) (by kernel_rfl) (by kernel_rfl) rfl (PO.move (v := .pointer (some ⟨qb, 0, none⟩)) he_35) ?_
        refine JA.takeP 3 rfl (by kernel_rfl) (NP.bl (NP.bl (NP.th (NP.th (NP.bl (NP.th NP.body)))))) (by kernel_rfl) (by kernel_rfl) rfl (PO.move (v := .pointer (some ⟨qb, 0, none⟩)) he_35) ?_
        refine JA.one (i := 2) (by kernel_rfl) ?_
        refine JX.op rfl rfl (JO.call [0] Tryz.call251 rfl (D_name qb qa qc ql qp_46 qs_47 (by omega) (by omega)) rfl (fun w hw => ⟨hw.seeOut_ hs_qa (hpre.2), hw.apart hs_qa (hpre.2) (by simp)⟩)) ?_
        rintro _ _ ⟨_, ⟨qp_65, qs_66, u_68, fq_67, f_69, rfl, rfl⟩, rfl⟩
        refine ⟨(by simp), ?_⟩
        refine JA.one (i := 4) (by kernel_rfl) ?_
        refine JX.op rfl rfl (JO.call [0] Tryz.call251 rfl (D_name qb qa qc ql qp_65 qs_66 (by omega) (by omega)) rfl (fun w hw => ⟨hw.seeOut_ hs_qa (hpre.2), hw.apart hs_qa (hpre.2) (by simp)⟩)) ?_
        rintro _ _ ⟨_, ⟨qp_77, qs_78, u_80, fq_79, f_81, rfl, rfl⟩, rfl⟩
        refine ⟨(by simp), ?_⟩
        refine JA.one (i := 5) (by kernel_rfl) ?_
        refine JX.op rfl rfl (JO.call [1, 1, 1] Tryz.call150 rfl (M_linkName x1 mm hkmm (by omega) (by omega) u_68 u_80 (by omega) (by omega)) rfl (fun _ _ => trivial)) ?_
        rintro _ _ ⟨_, ⟨x_91, m_92, n_93, e_89, k_90, f_94, rfl, rfl⟩, rfl⟩
        refine ⟨(by simp), ?_⟩
        refine JA.takeP 6 rfl (by kernel_rfl) (NP.bl (NP.bl (NP.th (NP.th (NP.bl (NP.th NP.body)))))) (by kernel_rfl) (by kernel_rfl) rfl (PO.move (v := .tuple #[mv x_91 m_92, .int .i64 n_93]) rfl) ?_
        refine JA.takeP 7 rfl (by kernel_rfl) (NP.bl (NP.bl (NP.th (NP.th (NP.bl (NP.th NP.body)))))) (by kernel_rfl) (by kernel_rfl) rfl (PO.extract (v := mv x_91 m_92) rfl rfl) ?_
        refine JA.takeP 8 rfl (by kernel_rfl) (NP.bl (NP.bl (NP.th (NP.th (NP.bl (NP.th NP.body)))))) (by kernel_rfl) (by kernel_rfl) rfl (PO.extract (v := .int .i64 n_93) rfl rfl) ?_
        refine JA.one (i := 9) (by kernel_rfl) ?_
        refine JX.last rfl rfl (by decide) (by kernel_rfl) (JO.store 4 (vs := [.slice x_91.a0 m_92.s.length x_91.c0, .slice x_91.a1 m_92.r.length x_91.c1, .slice x_91.a2 m_92.w.length x_91.c2]) (cs' := [.slice x_91.a0 m_92.s.length x_91.c0, .slice x_91.a1 m_92.r.length x_91.c1, .slice x_91.a2 m_92.w.length x_91.c2]) rfl he_37 rfl rfl Tryz.sizeOf32 rfl rfl (Nat.le_of_ble_eq_true rfl) rfl) ?_
        rintro _ _ rfl
        refine JQ.blockN ?_
        refine JQ.blockN ?_
        refine JQ.seq ?_
        refine JC.region ?_
        refine JL.pure rfl (PO.move (v := .int .i64 ((i_ : Nat) : Int)) he_38) ?_
        refine JL.pure rfl (PO.add (c := ((i_ + 1 : Nat) : Int)) rfl rfl (wr (by omega))) ?_
        refine JL.pure rfl (PO.assign (v := .int .i64 ((i_ + 1 : Nat) : Int)) rfl) ?_
        refine JL.nil ?_
        refine JQ.pick [0, 0, 0, 0, 0, 0, 0] (A := [rC x_91.a0 x_91.c0 m_92.s, rS x_91.a1 x_91.c1 m_92.r, rS x_91.a2 x_91.c2 m_92.w, cb qb qa qc ql qp_77 qs_78, mb b_7 x_91 m_92, Res.row (.slice a_2 0 0) 113 2 0 (([] : List Cell).flatMap encC), bk b_1 32 [.slice none 0 0, .slice none 0 0, .slice none 0 0]]) rfl ?_
        refine JQ.again (8 - (i_ + 1)) (by omega) ⟨(i_ + 1), qp_77, qs_78, x_91, m_92, (by omega), (k_90.mono (by omega) (by omega)), (by omega), he_35, he_36, he_37, rfl, rfl, rfl⟩
      · skip
        refine JC.condF (congrArg Value.bool (decide_eq_false h_52)) ?_
        refine JC.seq ?_
        refine JC.region ?_
        refine JL.pure rfl (PO.eqlI rfl rfl) ?_
        refine JL.pure rfl (PO.assign (v := .bool (decide (((n_49 : Nat) : Int) = 1))) rfl) ?_
        refine JL.nil ?_
        refine JQ.seq ?_
        by_cases h_95 : ((n_49 : Nat) : Int) = 1
        · skip
          refine JC.condT (congrArg Value.bool (decide_eq_true h_95)) ?_
          refine JC.regionA [mb b_7 x1 mm] 7 mixed (by simp) ?_
          refine JA.take 0 rfl (by kernel_rfl) (NP.bl (NP.bl (NP.th (NP.th (NP.bl (NP.th NP.body)))))) (by kernel_rfl) (by kernel_rfl) (by kernel_rfl) rfl (LO.loadK 0 (vs := [.slice x1.a0 mm.s.length x1.c0, .slice x1.a1 mm.r.length x1.c1, .slice x1.a2 mm.w.length x1.c2]) rfl he_37 Tryz.isAgg32 Tryz.sizeOf32 rfl rfl) ?_
          refine JA.takeP 1 rfl (by kernel_rfl) (NP.bl (NP.bl (NP.th (NP.th (NP.bl (NP.th NP.body)))))) (by kernel_rfl) (by kernel_rfl) rfl (PO.move (v := .pointer (some ⟨qb, 0, none⟩)) he_35) ?_
          refine JA.one (i := 2) (by kernel_rfl) ?_
          refine JX.op rfl rfl (JO.call [0] Tryz.call251 rfl (D_name qb qa qc ql qp_46 qs_47 (by omega) (by omega)) rfl (fun w hw => ⟨hw.seeOut_ hs_qa (hpre.2), hw.apart hs_qa (hpre.2) (by simp)⟩)) ?_
          rintro _ _ ⟨_, ⟨qp_102, qs_103, u_105, fq_104, f_106, rfl, rfl⟩, rfl⟩
          refine ⟨(by simp), ?_⟩
          refine JA.one (i := 3) (by kernel_rfl) ?_
          refine JX.op rfl rfl (JO.call [1, 1, 1] Tryz.call152 rfl (M_unlinkName x1 mm hkmm (by omega) (by omega) u_105 (by omega)) rfl (fun _ _ => trivial)) ?_
          rintro _ _ ⟨_, ⟨x_116, m_117, n_118, e_114, k_115, f_119, rfl, rfl⟩, rfl⟩
          refine ⟨(by simp), ?_⟩
          refine JA.takeP 4 rfl (by kernel_rfl) (NP.bl (NP.bl (NP.th (NP.th (NP.bl (NP.th NP.body)))))) (by kernel_rfl) (by kernel_rfl) rfl (PO.move (v := .tuple #[mv x_116 m_117, .int .i64 n_118]) rfl) ?_
          refine JA.takeP 5 rfl (by kernel_rfl) (NP.bl (NP.bl (NP.th (NP.th (NP.bl (NP.th NP.body)))))) (by kernel_rfl) (by kernel_rfl) rfl (PO.extract (v := mv x_116 m_117) rfl rfl) ?_
          refine JA.takeP 6 rfl (by kernel_rfl) (NP.bl (NP.bl (NP.th (NP.th (NP.bl (NP.th NP.body)))))) (by kernel_rfl) (by kernel_rfl) rfl (PO.extract (v := .int .i64 n_118) rfl rfl) ?_
          refine JA.one (i := 7) (by kernel_rfl) ?_
          refine JX.last rfl rfl (by decide) (by kernel_rfl) (JO.store 4 (vs := [.slice x_116.a0 m_117.s.length x_116.c0, .slice x_116.a1 m_117.r.length x_116.c1, .slice x_116.a2 m_117.w.length x_116.c2]) (cs' := [.slice x_116.a0 m_117.s.length x_116.c0, .slice x_116.a1 m_117.r.length x_116.c1, .slice x_116.a2 m_117.w.length x_116.c2]) rfl he_37 rfl rfl Tryz.sizeOf32 rfl rfl (Nat.le_of_ble_eq_true rfl) rfl) ?_
          rintro _ _ rfl
          refine JQ.blockN ?_
          refine JQ.blockN ?_
          refine JQ.seq ?_
          refine JC.region ?_
          refine JL.pure rfl (PO.move (v := .int .i64 ((i_ : Nat) : Int)) he_38) ?_
          refine JL.pure rfl (PO.add (c := ((i_ + 1 : Nat) : Int)) rfl rfl (wr (by omega))) ?_
          refine JL.pure rfl (PO.assign (v := .int .i64 ((i_ + 1 : Nat) : Int)) rfl) ?_
          refine JL.nil ?_
          refine JQ.pick [0, 0, 0, 0, 0, 0, 0] (A := [rC x_116.a0 x_116.c0 m_117.s, rS x_116.a1 x_116.c1 m_117.r, rS x_116.a2 x_116.c2 m_117.w, cb qb qa qc ql qp_102 qs_103, mb b_7 x_116 m_117, Res.row (.slice a_2 0 0) 113 2 0 (([] : List Cell).flatMap encC), bk b_1 32 [.slice none 0 0, .slice none 0 0, .slice none 0 0]]) rfl ?_
          refine JQ.again (8 - (i_ + 1)) (by omega) ⟨(i_ + 1), qp_102, qs_103, x_116, m_117, (by omega), (k_115.mono (by omega) (by omega)), (by omega), he_35, he_36, he_37, rfl, rfl, rfl⟩
        · skip
          refine JC.condF (congrArg Value.bool (decide_eq_false h_95)) ?_
          refine JC.seq ?_
          refine JC.region ?_
          refine JL.pure rfl (PO.eqlI rfl rfl) ?_
          refine JL.pure rfl (PO.assign (v := .bool (decide (((n_49 : Nat) : Int) = 2))) rfl) ?_
          refine JL.nil ?_
          refine JQ.seq ?_
          by_cases h_120 : ((n_49 : Nat) : Int) = 2
          · skip
            refine JC.condT (congrArg Value.bool (decide_eq_true h_120)) ?_
            refine JC.regionA [mb b_7 x1 mm] 9 mixed (by simp) ?_
            refine JA.take 0 rfl (by kernel_rfl) (NP.bl (NP.bl (NP.th (NP.th (NP.bl (NP.th NP.body)))))) (by kernel_rfl) (by kernel_rfl) (by kernel_rfl) rfl (LO.loadK 0 (vs := [.slice x1.a0 mm.s.length x1.c0, .slice x1.a1 mm.r.length x1.c1, .slice x1.a2 mm.w.length x1.c2]) rfl he_37 Tryz.isAgg32 Tryz.sizeOf32 rfl rfl) ?_
            refine JA.takeP 1 rfl (by kernel_rfl) (NP.bl (NP.bl (NP.th (NP.th (NP.bl (NP.th NP.body)))))) (by kernel_rfl) (by kernel_rfl) rfl (PO.move (v := .pointer (some ⟨qb, 0, none⟩)) he_35) ?_
            refine JA.takeP 3 rfl (by kernel_rfl) (NP.bl (NP.bl (NP.th (NP.th (NP.bl (NP.th NP.body)))))) (by kernel_rfl) (by kernel_rfl) rfl (PO.move (v := .pointer (some ⟨qb, 0, none⟩)) he_35) ?_
            refine JA.one (i := 2) (by kernel_rfl) ?_
            refine JX.op rfl rfl (JO.call [0] Tryz.call251 rfl (D_name qb qa qc ql qp_46 qs_47 (by omega) (by omega)) rfl (fun w hw => ⟨hw.seeOut_ hs_qa (hpre.2), hw.apart hs_qa (hpre.2) (by simp)⟩)) ?_
            rintro _ _ ⟨_, ⟨qp_133, qs_134, u_136, fq_135, f_137, rfl, rfl⟩, rfl⟩
            refine ⟨(by simp), ?_⟩
            refine JA.one (i := 4) (by kernel_rfl) ?_
            refine JX.op rfl rfl (JO.call [0] Tryz.call251 rfl (D_name qb qa qc ql qp_133 qs_134 (by omega) (by omega)) rfl (fun w hw => ⟨hw.seeOut_ hs_qa (hpre.2), hw.apart hs_qa (hpre.2) (by simp)⟩)) ?_
            rintro _ _ ⟨_, ⟨qp_145, qs_146, u_148, fq_147, f_149, rfl, rfl⟩, rfl⟩
            refine ⟨(by simp), ?_⟩
            refine JA.one (i := 5) (by kernel_rfl) ?_
            refine JX.op rfl rfl (JO.call [1, 1, 1] Tryz.call155 rfl (M_renameName x1 mm hkmm (by omega) (by omega) u_136 u_148 (by omega) (by omega)) rfl (fun _ _ => trivial)) ?_
            rintro _ _ ⟨_, ⟨x_159, m_160, n_161, e_157, k_158, f_162, rfl, rfl⟩, rfl⟩
            refine ⟨(by simp), ?_⟩
            refine JA.takeP 6 rfl (by kernel_rfl) (NP.bl (NP.bl (NP.th (NP.th (NP.bl (NP.th NP.body)))))) (by kernel_rfl) (by kernel_rfl) rfl (PO.move (v := .tuple #[mv x_159 m_160, .int .i64 n_161]) rfl) ?_
            refine JA.takeP 7 rfl (by kernel_rfl) (NP.bl (NP.bl (NP.th (NP.th (NP.bl (NP.th NP.body)))))) (by kernel_rfl) (by kernel_rfl) rfl (PO.extract (v := mv x_159 m_160) rfl rfl) ?_
            refine JA.takeP 8 rfl (by kernel_rfl) (NP.bl (NP.bl (NP.th (NP.th (NP.bl (NP.th NP.body)))))) (by kernel_rfl) (by kernel_rfl) rfl (PO.extract (v := .int .i64 n_161) rfl rfl) ?_
            refine JA.one (i := 9) (by kernel_rfl) ?_
            refine JX.last rfl rfl (by decide) (by kernel_rfl) (JO.store 4 (vs := [.slice x_159.a0 m_160.s.length x_159.c0, .slice x_159.a1 m_160.r.length x_159.c1, .slice x_159.a2 m_160.w.length x_159.c2]) (cs' := [.slice x_159.a0 m_160.s.length x_159.c0, .slice x_159.a1 m_160.r.length x_159.c1, .slice x_159.a2 m_160.w.length x_159.c2]) rfl he_37 rfl rfl Tryz.sizeOf32 rfl rfl (Nat.le_of_ble_eq_true rfl) rfl) ?_
            rintro _ _ rfl
            refine JQ.blockN ?_
            refine JQ.blockN ?_
            refine JQ.seq ?_
            refine JC.region ?_
            refine JL.pure rfl (PO.move (v := .int .i64 ((i_ : Nat) : Int)) he_38) ?_
            refine JL.pure rfl (PO.add (c := ((i_ + 1 : Nat) : Int)) rfl rfl (wr (by omega))) ?_
            refine JL.pure rfl (PO.assign (v := .int .i64 ((i_ + 1 : Nat) : Int)) rfl) ?_
            refine JL.nil ?_
            refine JQ.pick [0, 0, 0, 0, 0, 0, 0] (A := [rC x_159.a0 x_159.c0 m_160.s, rS x_159.a1 x_159.c1 m_160.r, rS x_159.a2 x_159.c2 m_160.w, cb qb qa qc ql qp_145 qs_146, mb b_7 x_159 m_160, Res.row (.slice a_2 0 0) 113 2 0 (([] : List Cell).flatMap encC), bk b_1 32 [.slice none 0 0, .slice none 0 0, .slice none 0 0]]) rfl ?_
            refine JQ.again (8 - (i_ + 1)) (by omega) ⟨(i_ + 1), qp_145, qs_146, x_159, m_160, (by omega), (k_158.mono (by omega) (by omega)), (by omega), he_35, he_36, he_37, rfl, rfl, rfl⟩
          · skip
            refine JC.condF (congrArg Value.bool (decide_eq_false h_120)) ?_
            refine JC.regionA [mb b_7 x1 mm] 8 mixed (by simp) ?_
            refine JA.take 0 rfl (by kernel_rfl) (NP.bl (NP.bl (NP.th (NP.th (NP.bl (NP.th NP.body)))))) (by kernel_rfl) (by kernel_rfl) (by kernel_rfl) rfl (LO.loadK 0 (vs := [.slice x1.a0 mm.s.length x1.c0, .slice x1.a1 mm.r.length x1.c1, .slice x1.a2 mm.w.length x1.c2]) rfl he_37 Tryz.isAgg32 Tryz.sizeOf32 rfl rfl) ?_
            refine JA.takeP 1 rfl (by kernel_rfl) (NP.bl (NP.bl (NP.th (NP.th (NP.bl (NP.th NP.body)))))) (by kernel_rfl) (by kernel_rfl) rfl (PO.move (v := .pointer (some ⟨qb, 0, none⟩)) he_35) ?_
            refine JA.one (i := 2) (by kernel_rfl) ?_
            refine JX.op rfl rfl (JO.call [0] Tryz.call251 rfl (D_name qb qa qc ql qp_46 qs_47 (by omega) (by omega)) rfl (fun w hw => ⟨hw.seeOut_ hs_qa (hpre.2), hw.apart hs_qa (hpre.2) (by simp)⟩)) ?_
            rintro _ _ ⟨_, ⟨qp_169, qs_170, u_172, fq_171, f_173, rfl, rfl⟩, rfl⟩
            refine ⟨(by simp), ?_⟩
            refine JA.one (i := 3) (by kernel_rfl) ?_
            refine JX.op rfl rfl (JO.call [1, 1, 1] Tryz.call141 rfl (M_makeName x1 mm hkmm (by omega) (by omega) u_172 (by omega)) rfl (fun _ _ => trivial)) ?_
            rintro _ _ ⟨_, ⟨x_185, m_186, n_187, n_189, e_183, k_184, f_188, f_190, rfl, rfl⟩, rfl⟩
            refine ⟨(by simp), ?_⟩
            refine JA.takeP 4 rfl (by kernel_rfl) (NP.bl (NP.bl (NP.th (NP.th (NP.bl (NP.th NP.body)))))) (by kernel_rfl) (by kernel_rfl) rfl (PO.move (v := .tuple #[mv x_185 m_186, .int .i64 n_187, .int .i64 n_189]) rfl) ?_
            refine JA.takeP 5 rfl (by kernel_rfl) (NP.bl (NP.bl (NP.th (NP.th (NP.bl (NP.th NP.body)))))) (by kernel_rfl) (by kernel_rfl) rfl (PO.extract (v := mv x_185 m_186) rfl rfl) ?_
            refine JA.takeP 6 rfl (by kernel_rfl) (NP.bl (NP.bl (NP.th (NP.th (NP.bl (NP.th NP.body)))))) (by kernel_rfl) (by kernel_rfl) rfl (PO.extract (v := .int .i64 n_187) rfl rfl) ?_
            refine JA.takeP 7 rfl (by kernel_rfl) (NP.bl (NP.bl (NP.th (NP.th (NP.bl (NP.th NP.body)))))) (by kernel_rfl) (by kernel_rfl) rfl (PO.extract (v := .int .i64 n_189) rfl rfl) ?_
            refine JA.one (i := 8) (by kernel_rfl) ?_
            refine JX.last rfl rfl (by decide) (by kernel_rfl) (JO.store 4 (vs := [.slice x_185.a0 m_186.s.length x_185.c0, .slice x_185.a1 m_186.r.length x_185.c1, .slice x_185.a2 m_186.w.length x_185.c2]) (cs' := [.slice x_185.a0 m_186.s.length x_185.c0, .slice x_185.a1 m_186.r.length x_185.c1, .slice x_185.a2 m_186.w.length x_185.c2]) rfl he_37 rfl rfl Tryz.sizeOf32 rfl rfl (Nat.le_of_ble_eq_true rfl) rfl) ?_
            rintro _ _ rfl
            refine JQ.blockN ?_
            refine JQ.blockN ?_
            refine JQ.seq ?_
            refine JC.region ?_
            refine JL.pure rfl (PO.move (v := .int .i64 ((i_ : Nat) : Int)) he_38) ?_
            refine JL.pure rfl (PO.add (c := ((i_ + 1 : Nat) : Int)) rfl rfl (wr (by omega))) ?_
            refine JL.pure rfl (PO.assign (v := .int .i64 ((i_ + 1 : Nat) : Int)) rfl) ?_
            refine JL.nil ?_
            refine JQ.pick [0, 0, 0, 0, 0, 0, 0] (A := [rC x_185.a0 x_185.c0 m_186.s, rS x_185.a1 x_185.c1 m_186.r, rS x_185.a2 x_185.c2 m_186.w, cb qb qa qc ql qp_169 qs_170, mb b_7 x_185 m_186, Res.row (.slice a_2 0 0) 113 2 0 (([] : List Cell).flatMap encC), bk b_1 32 [.slice none 0 0, .slice none 0 0, .slice none 0 0]]) rfl ?_
            refine JQ.again (8 - (i_ + 1)) (by omega) ⟨(i_ + 1), qp_169, qs_170, x_185, m_186, (by omega), (k_184.mono (by omega) (by omega)), (by omega), he_35, he_36, he_37, rfl, rfl, rfl⟩
    · skip
      refine JC.condF (congrArg Value.bool (decide_eq_false h_45)) ?_
      refine JC.exit ?_
      refine JQ.thenExit ?_
      refine JQ.thenExit ?_
      refine JQ.blockE ?_
      refine JQ.seq ?_
      refine JC.seq ?_
      refine JC.seq ?_
      refine JC.region ?_
      refine JL.pure rfl (PO.move (v := .pointer (some ⟨qb, 0, none⟩)) he_35) ?_
      refine JL.op rfl (JO.call [0] Tryz.call199 rfl (D_once qb qa qc ql qp_39 qs_40 (by omega) (by omega) 10 (by omega)) rfl (fun w hw => ⟨hw.seeOut_ hs_qa (hpre.2), hw.apart hs_qa (hpre.2) (by simp)⟩)) ?_
      rintro _ _ ⟨_, ⟨qp_191, qs_192, b_194, fq_193, rfl, rfl⟩, rfl⟩
      refine JL.nil ?_
      refine JQ.seq ?_
      rcases Bool.eq_false_or_eq_true (b_194) with h_196 | h_196
      · skip
        refine JC.condT (congrArg Value.bool h_196) ?_
        refine JC.regionA [mb b_7 x1 mm] 7 mixed (by simp) ?_
        refine JA.take 0 rfl (by kernel_rfl) (NP.th NP.body) (by kernel_rfl) (by kernel_rfl) (by kernel_rfl) rfl (LO.loadK 0 (vs := [.slice x1.a0 mm.s.length x1.c0, .slice x1.a1 mm.r.length x1.c1, .slice x1.a2 mm.w.length x1.c2]) rfl he_37 Tryz.isAgg32 Tryz.sizeOf32 rfl rfl) ?_
        refine JA.takeP 1 rfl (by kernel_rfl) (NP.th NP.body) (by kernel_rfl) (by kernel_rfl) rfl (PO.move (v := .pointer (some ⟨qb, 0, none⟩)) he_35) ?_
        refine JA.takeP 3 rfl (by kernel_rfl) (NP.th NP.body) (by kernel_rfl) (by kernel_rfl) rfl (PO.move (v := .pointer (some ⟨qb, 0, none⟩)) he_35) ?_
        refine JA.two (i := 2) (j := 4) (by kernel_rfl) ?_ ?_
        · skip
          refine JX.op rfl rfl (JO.call [0] Tryz.call258 rfl (D_key qb qa qc ql qp_191 qs_192 (by omega) (by omega)) rfl (fun w hw => ⟨hw.seeOut_ hs_qa (hpre.2), hw.apart hs_qa (hpre.2) (by simp)⟩)) ?_
          rintro _ _ ⟨_, ⟨qp_210, qs_211, u_213, fq_212, f_214, rfl, rfl⟩, rfl⟩
          refine ⟨(by simp), ?_⟩
          refine JA.one (i := 4) (by kernel_rfl) ?_
          refine JX.op rfl rfl (JO.buildSlice (ps := [(0, str [49]), (1, str [50]), (2, str [120]), (3, str [57, 57, 57])]) (cur := #[str [49], str [50], str [120], str [57, 57, 57]]) Tryz.underlying23 Tryz.sizeOf9 Tryz.zeroValue9 rfl (by kernel_rfl) (by decide) (by decide)) ?_
          rintro _ _ ⟨a_217, rfl, rfl⟩
          refine ⟨(by simp), ?_⟩
          refine JA.one (i := 5) (by kernel_rfl) ?_
          refine JX.op rfl rfl (JO.call [1, 0] Tryz.call259 rfl (D_pick qb qa qc ql qp_210 qs_211 a_217 4 ([[49], [50], [120], [57, 57, 57]] : List Str) (by omega) (by omega) (by simp) (by simp)) rfl (fun w hw => ⟨hw.seeOut_ hs_qa (hpre.2), hw.apart hs_qa (hpre.2) (by simp)⟩)) ?_
          rintro _ _ ⟨_, ⟨qp_224, qs_225, u_227, fq_226, f_228, rfl, rfl⟩, rfl⟩
          have hlu_227 : u_227.length ≤ 64 := by have hx_ := f_228; simp only [List.mem_cons, List.not_mem_nil, or_false] at hx_; rcases hx_ with hx_ | hx_ | hx_ | hx_ <;> first | (rw [hx_]; decide) | (rw [hx_]; omega)
          refine ⟨(by simp), ?_⟩
          refine JA.one (i := 6) (by kernel_rfl) ?_
          refine JX.op rfl rfl (JO.call [1, 1, 1] Tryz.call232 rfl (N_sLay x1 mm hkmm (by omega) (by omega) u_213 u_227 (by omega)) rfl (fun _ _ => trivial)) ?_
          rintro _ _ ⟨_, ⟨x_236, m_237, e_234, k_235, rfl, rfl⟩, rfl⟩
          refine ⟨(by simp), ?_⟩
          refine JA.one (i := 7) (by kernel_rfl) ?_
          refine JX.last rfl rfl (by decide) (by kernel_rfl) (JO.store 4 (vs := [.slice x_236.a0 m_237.s.length x_236.c0, .slice x_236.a1 m_237.r.length x_236.c1, .slice x_236.a2 m_237.w.length x_236.c2]) (cs' := [.slice x_236.a0 m_237.s.length x_236.c0, .slice x_236.a1 m_237.r.length x_236.c1, .slice x_236.a2 m_237.w.length x_236.c2]) rfl he_37 rfl rfl Tryz.sizeOf32 rfl rfl (Nat.le_of_ble_eq_true rfl) rfl) ?_
          rintro _ _ rfl
          refine JQ.seq ?_
          refine JC.seq ?_
          refine JC.region ?_
          refine JL.ld rfl (LO.loadK 4 (vs := [.slice x_236.a0 m_237.s.length x_236.c0, .slice x_236.a1 m_237.r.length x_236.c1, .slice x_236.a2 m_237.w.length x_236.c2]) rfl he_37 Tryz.isAgg32 Tryz.sizeOf32 rfl rfl) ?_
          refine JL.op rfl (JO.store 6 (vs := [.slice x_236.a0 m_237.s.length x_236.c0, .slice x_236.a1 m_237.r.length x_236.c1, .slice x_236.a2 m_237.w.length x_236.c2]) (cs' := [.slice x_236.a0 m_237.s.length x_236.c0, .slice x_236.a1 m_237.r.length x_236.c1, .slice x_236.a2 m_237.w.length x_236.c2]) rfl he_36 rfl rfl Tryz.sizeOf32 rfl rfl (Nat.le_of_ble_eq_true rfl) rfl) ?_
          rintro _ _ rfl
          refine JL.nil ?_
          refine JQ.seq ?_
          refine JC.ret ?_
          refine JQ.perm (pick_perm [3, 0, 0, 0] (A := [cb qb qa qc ql qp_224 qs_225, rC x_236.a0 x_236.c0 m_237.s, rS x_236.a1 x_236.c1 m_237.r, rS x_236.a2 x_236.c2 m_237.w]) (F := [mb b_7 x_236 m_237, Res.row (.slice a_2 0 0) 113 2 0 (([] : List Cell).flatMap encC), mb b_1 x_236 m_237]) rfl).symm ?_
          refine Done.one (.inl rfl) rfl (RV.cell1 (LO.loadK 6 (vs := [.slice x_236.a0 m_237.s.length x_236.c0, .slice x_236.a1 m_237.r.length x_236.c1, .slice x_236.a2 m_237.w.length x_236.c2]) rfl he_36 Tryz.isAgg32 Tryz.sizeOf32 rfl rfl) ⟨_, he_36⟩) (List.sublist_append_left [cb qb qa qc ql qp_224 qs_225, rC x_236.a0 x_236.c0 m_237.s, rS x_236.a1 x_236.c1 m_237.r, rS x_236.a2 x_236.c2 m_237.w] [mb b_7 x_236 m_237, Res.row (.slice a_2 0 0) 113 2 0 (([] : List Cell).flatMap encC), mb b_1 x_236 m_237]) ?_
          exact ⟨qp_224, qs_225, x_236, m_237, (by omega), (k_235.mono (by omega) (by omega)), rfl, rfl⟩
        · skip
          refine JX.op rfl rfl (JO.buildSlice (ps := [(0, str [49]), (1, str [50]), (2, str [120]), (3, str [57, 57, 57])]) (cur := #[str [49], str [50], str [120], str [57, 57, 57]]) Tryz.underlying23 Tryz.sizeOf9 Tryz.zeroValue9 rfl (by kernel_rfl) (by decide) (by decide)) ?_
          rintro _ _ ⟨a_238, rfl, rfl⟩
          refine ⟨(by simp), ?_⟩
          refine JA.one (i := 2) (by kernel_rfl) ?_
          refine JX.op rfl rfl (JO.call [1] Tryz.call258 rfl (D_key qb qa qc ql qp_191 qs_192 (by omega) (by omega)) rfl (fun w hw => ⟨hw.seeOut_ hs_qa (hpre.2), hw.apart hs_qa (hpre.2) (by simp)⟩)) ?_
          rintro _ _ ⟨_, ⟨qp_245, qs_246, u_248, fq_247, f_249, rfl, rfl⟩, rfl⟩
          refine ⟨(by simp), ?_⟩
          refine JA.one (i := 5) (by kernel_rfl) ?_
          refine JX.op rfl rfl (JO.call [0, 0] Tryz.call259 rfl (D_pick qb qa qc ql qp_245 qs_246 a_238 4 ([[49], [50], [120], [57, 57, 57]] : List Str) (by omega) (by omega) (by simp) (by simp)) rfl (fun w hw => ⟨hw.seeOut_ hs_qa (hpre.2), hw.apart hs_qa (hpre.2) (by simp)⟩)) ?_
          rintro _ _ ⟨_, ⟨qp_257, qs_258, u_260, fq_259, f_261, rfl, rfl⟩, rfl⟩
          have hlu_260 : u_260.length ≤ 64 := by have hx_ := f_261; simp only [List.mem_cons, List.not_mem_nil, or_false] at hx_; rcases hx_ with hx_ | hx_ | hx_ | hx_ <;> first | (rw [hx_]; decide) | (rw [hx_]; omega)
          refine ⟨(by simp), ?_⟩
          refine JA.one (i := 6) (by kernel_rfl) ?_
          refine JX.op rfl rfl (JO.call [1, 1, 1] Tryz.call232 rfl (N_sLay x1 mm hkmm (by omega) (by omega) u_248 u_260 (by omega)) rfl (fun _ _ => trivial)) ?_
          rintro _ _ ⟨_, ⟨x_269, m_270, e_267, k_268, rfl, rfl⟩, rfl⟩
          refine ⟨(by simp), ?_⟩
          refine JA.one (i := 7) (by kernel_rfl) ?_
          refine JX.last rfl rfl (by decide) (by kernel_rfl) (JO.store 4 (vs := [.slice x_269.a0 m_270.s.length x_269.c0, .slice x_269.a1 m_270.r.length x_269.c1, .slice x_269.a2 m_270.w.length x_269.c2]) (cs' := [.slice x_269.a0 m_270.s.length x_269.c0, .slice x_269.a1 m_270.r.length x_269.c1, .slice x_269.a2 m_270.w.length x_269.c2]) rfl he_37 rfl rfl Tryz.sizeOf32 rfl rfl (Nat.le_of_ble_eq_true rfl) rfl) ?_
          rintro _ _ rfl
          refine JQ.seq ?_
          refine JC.seq ?_
          refine JC.region ?_
          refine JL.ld rfl (LO.loadK 4 (vs := [.slice x_269.a0 m_270.s.length x_269.c0, .slice x_269.a1 m_270.r.length x_269.c1, .slice x_269.a2 m_270.w.length x_269.c2]) rfl he_37 Tryz.isAgg32 Tryz.sizeOf32 rfl rfl) ?_
          refine JL.op rfl (JO.store 6 (vs := [.slice x_269.a0 m_270.s.length x_269.c0, .slice x_269.a1 m_270.r.length x_269.c1, .slice x_269.a2 m_270.w.length x_269.c2]) (cs' := [.slice x_269.a0 m_270.s.length x_269.c0, .slice x_269.a1 m_270.r.length x_269.c1, .slice x_269.a2 m_270.w.length x_269.c2]) rfl he_36 rfl rfl Tryz.sizeOf32 rfl rfl (Nat.le_of_ble_eq_true rfl) rfl) ?_
          rintro _ _ rfl
          refine JL.nil ?_
          refine JQ.seq ?_
          refine JC.ret ?_
          refine JQ.perm (pick_perm [3, 0, 0, 0] (A := [cb qb qa qc ql qp_257 qs_258, rC x_269.a0 x_269.c0 m_270.s, rS x_269.a1 x_269.c1 m_270.r, rS x_269.a2 x_269.c2 m_270.w]) (F := [mb b_7 x_269 m_270, Res.row (.slice a_2 0 0) 113 2 0 (([] : List Cell).flatMap encC), mb b_1 x_269 m_270]) rfl).symm ?_
          refine Done.one (.inl rfl) rfl (RV.cell1 (LO.loadK 6 (vs := [.slice x_269.a0 m_270.s.length x_269.c0, .slice x_269.a1 m_270.r.length x_269.c1, .slice x_269.a2 m_270.w.length x_269.c2]) rfl he_36 Tryz.isAgg32 Tryz.sizeOf32 rfl rfl) ⟨_, he_36⟩) (List.sublist_append_left [cb qb qa qc ql qp_257 qs_258, rC x_269.a0 x_269.c0 m_270.s, rS x_269.a1 x_269.c1 m_270.r, rS x_269.a2 x_269.c2 m_270.w] [mb b_7 x_269 m_270, Res.row (.slice a_2 0 0) 113 2 0 (([] : List Cell).flatMap encC), mb b_1 x_269 m_270]) ?_
          exact ⟨qp_257, qs_258, x_269, m_270, (by omega), (k_268.mono (by omega) (by omega)), rfl, rfl⟩
      · skip
        refine JC.condF (congrArg Value.bool h_196) ?_
        refine JC.skip ?_
        refine JQ.seq ?_
        refine JC.seq ?_
        refine JC.region ?_
        refine JL.ld rfl (LO.loadK 4 (vs := [.slice x1.a0 mm.s.length x1.c0, .slice x1.a1 mm.r.length x1.c1, .slice x1.a2 mm.w.length x1.c2]) rfl he_37 Tryz.isAgg32 Tryz.sizeOf32 rfl rfl) ?_
        refine JL.op rfl (JO.store 6 (vs := [.slice x1.a0 mm.s.length x1.c0, .slice x1.a1 mm.r.length x1.c1, .slice x1.a2 mm.w.length x1.c2]) (cs' := [.slice x1.a0 mm.s.length x1.c0, .slice x1.a1 mm.r.length x1.c1, .slice x1.a2 mm.w.length x1.c2]) rfl he_36 rfl rfl Tryz.sizeOf32 rfl rfl (Nat.le_of_ble_eq_true rfl) rfl) ?_
        rintro _ _ rfl
        refine JL.nil ?_
        refine JQ.seq ?_
        refine JC.ret ?_
        refine Done.one (.inl rfl) rfl (RV.cell1 (LO.loadK 6 (vs := [.slice x1.a0 mm.s.length x1.c0, .slice x1.a1 mm.r.length x1.c1, .slice x1.a2 mm.w.length x1.c2]) rfl he_36 Tryz.isAgg32 Tryz.sizeOf32 rfl rfl) ⟨_, he_36⟩) (List.sublist_append_left [cb qb qa qc ql qp_191 qs_192, rC x1.a0 x1.c0 mm.s, rS x1.a1 x1.c1 mm.r, rS x1.a2 x1.c2 mm.w] [mb b_7 x1 mm, Res.row (.slice a_2 0 0) 113 2 0 (([] : List Cell).flatMap encC), mb b_1 x1 mm]) ?_
        exact ⟨qp_191, qs_192, x1, mm, (by omega), (hkmm.mono (by omega) (by omega)), rfl, rfl⟩
  · skip
    refine JC.condF (congrArg Value.bool h_13) ?_
    refine JC.skip ?_
    refine JQ.seq ?_
    refine JC.seq ?_
    refine JC.seq ?_
    refine JC.region ?_
    refine JL.pure rfl (PO.assign (v := .int .i64 0) rfl) ?_
    refine JL.nil ?_
    refine JQ.seq ?_
    refine JC.block ?_
    refine JC.loop (fun k_ e_ L_ => ∃ i_ : Nat, ∃ p_q : Nat, ∃ s_q : Int, ∃ x1 : MA, ∃ mm : MS, (p_q ≤ ql.length) ∧ (mm.ok (1 + 3 * i_) (1 + 60 * i_)) ∧ (i_ ≤ 7) ∧ e_ 0 = .pointer (some ⟨qb, 0, none⟩) ∧ e_ 2 = .pointer (some ⟨b_1, 0, none⟩) ∧ e_ 3 = .pointer (some ⟨b_7, 0, none⟩) ∧ e_ 4 = .int .i64 ((i_ : Nat) : Int) ∧ L_ = [cb qb qa qc ql p_q s_q, mb b_7 x1 mm, rC x1.a0 x1.c0 mm.s, rS x1.a1 x1.c1 mm.r, rS x1.a2 x1.c2 mm.w, Res.row (.slice a_2 0 0) 113 2 0 (([] : List Cell).flatMap encC), bk b_1 32 [.slice none 0 0, .slice none 0 0, .slice none 0 0]] ∧ k_ = 8 - i_) _ ⟨0, qp_8, qs_9, x_3, m_4, (by omega), (k_5.mono (by omega) (by omega)), (by omega), rfl, rfl, rfl, rfl, rfl, rfl⟩ ?_
    rintro _ e_271 _ ⟨i_, p_q, s_q, x1, mm, hpq_, hkmm, hi, he_272, he_273, he_274, he_275, rfl, rfl⟩
    refine JC.seq ?_
    refine JC.seq ?_
    refine JC.region ?_
    refine JL.pure rfl (PO.move (v := .int .i64 ((i_ : Nat) : Int)) he_275) ?_
    refine JL.pure rfl (PO.move (v := .pointer (some ⟨qb, 0, none⟩)) he_272) ?_
    refine JL.op rfl (JO.call [0] Tryz.call173 rfl (D_below qb qa qc ql p_q s_q (by omega) (by omega) 7 (by omega)) rfl (fun w hw => ⟨hw.seeOut_ hs_qa (hpre.2), hw.apart hs_qa (hpre.2) (by simp)⟩)) ?_
    rintro _ _ ⟨_, ⟨qp_276, qs_277, n_279, fq_278, f_280, rfl, rfl⟩, rfl⟩
    refine JL.pure rfl (PO.lss rfl rfl) ?_
    refine JL.nil ?_
    refine JQ.seq ?_
    by_cases h_282 : ((i_ : Nat) : Int) < ((n_279 : Nat) : Int)
    · skip
      refine JC.condT (congrArg Value.bool (decide_eq_true h_282)) ?_
      refine JC.skip ?_
      refine JQ.seq ?_
      refine JC.seq ?_
      refine JC.block ?_
      refine JC.seq ?_
      refine JC.region ?_
      refine JL.pure rfl (PO.move (v := .pointer (some ⟨qb, 0, none⟩)) he_272) ?_
      refine JL.op rfl (JO.call [0] Tryz.call173 rfl (D_below qb qa qc ql qp_276 qs_277 (by omega) (by omega) 6 (by omega)) rfl (fun w hw => ⟨hw.seeOut_ hs_qa (hpre.2), hw.apart hs_qa (hpre.2) (by simp)⟩)) ?_
      rintro _ _ ⟨_, ⟨qp_283, qs_284, n_286, fq_285, f_287, rfl, rfl⟩, rfl⟩
      refine JL.nil ?_
      refine JQ.seq ?_
      refine JC.block ?_
      refine JC.seq ?_
      refine JC.region ?_
      refine JL.pure rfl (PO.eqlI rfl rfl) ?_
      refine JL.pure rfl (PO.assign (v := .bool (decide (((n_286 : Nat) : Int) = 0))) rfl) ?_
      refine JL.nil ?_
      refine JQ.seq ?_
      by_cases h_289 : ((n_286 : Nat) : Int) = 0
      · skip
        refine JC.condT (congrArg Value.bool (decide_eq_true h_289)) ?_
        refine JC.regionA [mb b_7 x1 mm] 9 mixed (by simp) ?_
        refine JA.take 0 rfl (by kernel_rfl) (NP.bl (NP.bl (NP.th (NP.th (NP.bl (NP.th NP.body)))))) (by kernel_rfl) (by kernel_rfl) (by kernel_rfl) rfl (LO.loadK 0 (vs := [.slice x1.a0 mm.s.length x1.c0, .slice x1.a1 mm.r.length x1.c1, .slice x1.a2 mm.w.length x1.c2]) rfl he_274 Tryz.isAgg32 Tryz.sizeOf32 rfl rfl) ?_
        refine JA.takeP 1 rfl (by kernel_rfl) (NP.bl (NP.bl (NP.th (NP.th (NP.bl (NP.th NP.body)))))) (by kernel_rfl) (by kernel_rfl) rfl (PO.move (v := .pointer (some ⟨qb, 0, none⟩)) he_272) ?_
        refine JA.takeP 3 rfl (by kernel_rfl) (NP.bl (NP.bl (NP.th (NP.th (NP.bl (NP.th NP.body)))))) (by kernel_rfl) (by kernel_rfl) rfl (PO.move (v := .pointer (some ⟨qb, 0, none⟩)) he_272) ?_
        refine JA.one (i := 2) (by kernel_rfl) ?_
        refine JX.op rfl rfl (JO.call [0] Tryz.call251 rfl (D_name qb qa qc ql qp_283 qs_284 (by omega) (by omega)) rfl (fun w hw => ⟨hw.seeOut_ hs_qa (hpre.2), hw.apart hs_qa (hpre.2) (by simp)⟩)) ?_
        rintro _ _ ⟨_, ⟨qp_302, qs_303, u_305, fq_304, f_306, rfl, rfl⟩, rfl⟩
        refine ⟨(by simp), ?_⟩
        refine JA.one (i := 4) (by kernel_rfl) ?_
        refine JX.op rfl rfl (JO.call [0] Tryz.call251 rfl (D_name qb qa qc ql qp_302 qs_303 (by omega) (by omega)) rfl (fun w hw => ⟨hw.seeOut_ hs_qa (hpre.2), hw.apart hs_qa (hpre.2) (by simp)⟩)) ?_
        rintro _ _ ⟨_, ⟨qp_314, qs_315, u_317, fq_316, f_318, rfl, rfl⟩, rfl⟩
        refine ⟨(by simp), ?_⟩
        refine JA.one (i := 5) (by kernel_rfl) ?_
        refine JX.op rfl rfl (JO.call [2, 2, 2] Tryz.call150 rfl (M_linkName x1 mm hkmm (by omega) (by omega) u_305 u_317 (by omega) (by omega)) rfl (fun _ _ => trivial)) ?_
        rintro _ _ ⟨_, ⟨x_328, m_329, n_330, e_326, k_327, f_331, rfl, rfl⟩, rfl⟩
        refine ⟨(by simp), ?_⟩
        refine JA.takeP 6 rfl (by kernel_rfl) (NP.bl (NP.bl (NP.th (NP.th (NP.bl (NP.th NP.body)))))) (by kernel_rfl) (by kernel_rfl) rfl (PO.move (v := .tuple #[mv x_328 m_329, .int .i64 n_330]) rfl) ?_
        refine JA.takeP 7 rfl (by kernel_rfl) (NP.bl (NP.bl (NP.th (NP.th (NP.bl (NP.th NP.body)))))) (by kernel_rfl) (by kernel_rfl) rfl (PO.extract (v := mv x_328 m_329) rfl rfl) ?_
        refine JA.takeP 8 rfl (by kernel_rfl) (NP.bl (NP.bl (NP.th (NP.th (NP.bl (NP.th NP.body)))))) (by kernel_rfl) (by kernel_rfl) rfl (PO.extract (v := .int .i64 n_330) rfl rfl) ?_
        refine JA.one (i := 9) (by kernel_rfl) ?_
        refine JX.last rfl rfl (by decide) (by kernel_rfl) (JO.store 4 (vs := [.slice x_328.a0 m_329.s.length x_328.c0, .slice x_328.a1 m_329.r.length x_328.c1, .slice x_328.a2 m_329.w.length x_328.c2]) (cs' := [.slice x_328.a0 m_329.s.length x_328.c0, .slice x_328.a1 m_329.r.length x_328.c1, .slice x_328.a2 m_329.w.length x_328.c2]) rfl he_274 rfl rfl Tryz.sizeOf32 rfl rfl (Nat.le_of_ble_eq_true rfl) rfl) ?_
        rintro _ _ rfl
        refine JQ.blockN ?_
        refine JQ.blockN ?_
        refine JQ.seq ?_
        refine JC.region ?_
        refine JL.pure rfl (PO.move (v := .int .i64 ((i_ : Nat) : Int)) he_275) ?_
        refine JL.pure rfl (PO.add (c := ((i_ + 1 : Nat) : Int)) rfl rfl (wr (by omega))) ?_
        refine JL.pure rfl (PO.assign (v := .int .i64 ((i_ + 1 : Nat) : Int)) rfl) ?_
        refine JL.nil ?_
        refine JQ.pick [3, 3, 0, 0, 0, 0, 0] (A := [cb qb qa qc ql qp_314 qs_315, mb b_7 x_328 m_329, rC x_328.a0 x_328.c0 m_329.s, rS x_328.a1 x_328.c1 m_329.r, rS x_328.a2 x_328.c2 m_329.w, Res.row (.slice a_2 0 0) 113 2 0 (([] : List Cell).flatMap encC), bk b_1 32 [.slice none 0 0, .slice none 0 0, .slice none 0 0]]) rfl ?_
        refine JQ.again (8 - (i_ + 1)) (by omega) ⟨(i_ + 1), qp_314, qs_315, x_328, m_329, (by omega), (k_327.mono (by omega) (by omega)), (by omega), he_272, he_273, he_274, rfl, rfl, rfl⟩
      · skip
        refine JC.condF (congrArg Value.bool (decide_eq_false h_289)) ?_
        refine JC.seq ?_
        refine JC.region ?_
        refine JL.pure rfl (PO.eqlI rfl rfl) ?_
        refine JL.pure rfl (PO.assign (v := .bool (decide (((n_286 : Nat) : Int) = 1))) rfl) ?_
        refine JL.nil ?_
        refine JQ.seq ?_
        by_cases h_332 : ((n_286 : Nat) : Int) = 1
        · skip
          refine JC.condT (congrArg Value.bool (decide_eq_true h_332)) ?_
          refine JC.regionA [mb b_7 x1 mm] 7 mixed (by simp) ?_
          refine JA.take 0 rfl (by kernel_rfl) (NP.bl (NP.bl (NP.th (NP.th (NP.bl (NP.th NP.body)))))) (by kernel_rfl) (by kernel_rfl) (by kernel_rfl) rfl (LO.loadK 0 (vs := [.slice x1.a0 mm.s.length x1.c0, .slice x1.a1 mm.r.length x1.c1, .slice x1.a2 mm.w.length x1.c2]) rfl he_274 Tryz.isAgg32 Tryz.sizeOf32 rfl rfl) ?_
          refine JA.takeP 1 rfl (by kernel_rfl) (NP.bl (NP.bl (NP.th (NP.th (NP.bl (NP.th NP.body)))))) (by kernel_rfl) (by kernel_rfl) rfl (PO.move (v := .pointer (some ⟨qb, 0, none⟩)) he_272) ?_
          refine JA.one (i := 2) (by kernel_rfl) ?_
          refine JX.op rfl rfl (JO.call [0] Tryz.call251 rfl (D_name qb qa qc ql qp_283 qs_284 (by omega) (by omega)) rfl (fun w hw => ⟨hw.seeOut_ hs_qa (hpre.2), hw.apart hs_qa (hpre.2) (by simp)⟩)) ?_
          rintro _ _ ⟨_, ⟨qp_339, qs_340, u_342, fq_341, f_343, rfl, rfl⟩, rfl⟩
          refine ⟨(by simp), ?_⟩
          refine JA.one (i := 3) (by kernel_rfl) ?_
          refine JX.op rfl rfl (JO.call [2, 2, 2] Tryz.call152 rfl (M_unlinkName x1 mm hkmm (by omega) (by omega) u_342 (by omega)) rfl (fun _ _ => trivial)) ?_
          rintro _ _ ⟨_, ⟨x_353, m_354, n_355, e_351, k_352, f_356, rfl, rfl⟩, rfl⟩
          refine ⟨(by simp), ?_⟩
          refine JA.takeP 4 rfl (by kernel_rfl) (NP.bl (NP.bl (NP.th (NP.th (NP.bl (NP.th NP.body)))))) (by kernel_rfl) (by kernel_rfl) rfl (PO.move (v := .tuple #[mv x_353 m_354, .int .i64 n_355]) rfl) ?_
          refine JA.takeP 5 rfl (by kernel_rfl) (NP.bl (NP.bl (NP.th (NP.th (NP.bl (NP.th NP.body)))))) (by kernel_rfl) (by kernel_rfl) rfl (PO.extract (v := mv x_353 m_354) rfl rfl) ?_
          refine JA.takeP 6 rfl (by kernel_rfl) (NP.bl (NP.bl (NP.th (NP.th (NP.bl (NP.th NP.body)))))) (by kernel_rfl) (by kernel_rfl) rfl (PO.extract (v := .int .i64 n_355) rfl rfl) ?_
          refine JA.one (i := 7) (by kernel_rfl) ?_
          refine JX.last rfl rfl (by decide) (by kernel_rfl) (JO.store 4 (vs := [.slice x_353.a0 m_354.s.length x_353.c0, .slice x_353.a1 m_354.r.length x_353.c1, .slice x_353.a2 m_354.w.length x_353.c2]) (cs' := [.slice x_353.a0 m_354.s.length x_353.c0, .slice x_353.a1 m_354.r.length x_353.c1, .slice x_353.a2 m_354.w.length x_353.c2]) rfl he_274 rfl rfl Tryz.sizeOf32 rfl rfl (Nat.le_of_ble_eq_true rfl) rfl) ?_
          rintro _ _ rfl
          refine JQ.blockN ?_
          refine JQ.blockN ?_
          refine JQ.seq ?_
          refine JC.region ?_
          refine JL.pure rfl (PO.move (v := .int .i64 ((i_ : Nat) : Int)) he_275) ?_
          refine JL.pure rfl (PO.add (c := ((i_ + 1 : Nat) : Int)) rfl rfl (wr (by omega))) ?_
          refine JL.pure rfl (PO.assign (v := .int .i64 ((i_ + 1 : Nat) : Int)) rfl) ?_
          refine JL.nil ?_
          refine JQ.pick [3, 3, 0, 0, 0, 0, 0] (A := [cb qb qa qc ql qp_339 qs_340, mb b_7 x_353 m_354, rC x_353.a0 x_353.c0 m_354.s, rS x_353.a1 x_353.c1 m_354.r, rS x_353.a2 x_353.c2 m_354.w, Res.row (.slice a_2 0 0) 113 2 0 (([] : List Cell).flatMap encC), bk b_1 32 [.slice none 0 0, .slice none 0 0, .slice none 0 0]]) rfl ?_
          refine JQ.again (8 - (i_ + 1)) (by omega) ⟨(i_ + 1), qp_339, qs_340, x_353, m_354, (by omega), (k_352.mono (by omega) (by omega)), (by omega), he_272, he_273, he_274, rfl, rfl, rfl⟩
        · skip
          refine JC.condF (congrArg Value.bool (decide_eq_false h_332)) ?_
          refine JC.seq ?_
          refine JC.region ?_
          refine JL.pure rfl (PO.eqlI rfl rfl) ?_
          refine JL.pure rfl (PO.assign (v := .bool (decide (((n_286 : Nat) : Int) = 2))) rfl) ?_
          refine JL.nil ?_
          refine JQ.seq ?_
          by_cases h_357 : ((n_286 : Nat) : Int) = 2
          · skip
            refine JC.condT (congrArg Value.bool (decide_eq_true h_357)) ?_
            refine JC.regionA [mb b_7 x1 mm] 9 mixed (by simp) ?_
            refine JA.take 0 rfl (by kernel_rfl) (NP.bl (NP.bl (NP.th (NP.th (NP.bl (NP.th NP.body)))))) (by kernel_rfl) (by kernel_rfl) (by kernel_rfl) rfl (LO.loadK 0 (vs := [.slice x1.a0 mm.s.length x1.c0, .slice x1.a1 mm.r.length x1.c1, .slice x1.a2 mm.w.length x1.c2]) rfl he_274 Tryz.isAgg32 Tryz.sizeOf32 rfl rfl) ?_
            refine JA.takeP 1 rfl (by kernel_rfl) (NP.bl (NP.bl (NP.th (NP.th (NP.bl (NP.th NP.body)))))) (by kernel_rfl) (by kernel_rfl) rfl (PO.move (v := .pointer (some ⟨qb, 0, none⟩)) he_272) ?_
            refine JA.takeP 3 rfl (by kernel_rfl) (NP.bl (NP.bl (NP.th (NP.th (NP.bl (NP.th NP.body)))))) (by kernel_rfl) (by kernel_rfl) rfl (PO.move (v := .pointer (some ⟨qb, 0, none⟩)) he_272) ?_
            refine JA.one (i := 2) (by kernel_rfl) ?_
            refine JX.op rfl rfl (JO.call [0] Tryz.call251 rfl (D_name qb qa qc ql qp_283 qs_284 (by omega) (by omega)) rfl (fun w hw => ⟨hw.seeOut_ hs_qa (hpre.2), hw.apart hs_qa (hpre.2) (by simp)⟩)) ?_
            rintro _ _ ⟨_, ⟨qp_370, qs_371, u_373, fq_372, f_374, rfl, rfl⟩, rfl⟩
            refine ⟨(by simp), ?_⟩
            refine JA.one (i := 4) (by kernel_rfl) ?_
            refine JX.op rfl rfl (JO.call [0] Tryz.call251 rfl (D_name qb qa qc ql qp_370 qs_371 (by omega) (by omega)) rfl (fun w hw => ⟨hw.seeOut_ hs_qa (hpre.2), hw.apart hs_qa (hpre.2) (by simp)⟩)) ?_
            rintro _ _ ⟨_, ⟨qp_382, qs_383, u_385, fq_384, f_386, rfl, rfl⟩, rfl⟩
            refine ⟨(by simp), ?_⟩
            refine JA.one (i := 5) (by kernel_rfl) ?_
            refine JX.op rfl rfl (JO.call [2, 2, 2] Tryz.call155 rfl (M_renameName x1 mm hkmm (by omega) (by omega) u_373 u_385 (by omega) (by omega)) rfl (fun _ _ => trivial)) ?_
            rintro _ _ ⟨_, ⟨x_396, m_397, n_398, e_394, k_395, f_399, rfl, rfl⟩, rfl⟩
            refine ⟨(by simp), ?_⟩
            refine JA.takeP 6 rfl (by kernel_rfl) (NP.bl (NP.bl (NP.th (NP.th (NP.bl (NP.th NP.body)))))) (by kernel_rfl) (by kernel_rfl) rfl (PO.move (v := .tuple #[mv x_396 m_397, .int .i64 n_398]) rfl) ?_
            refine JA.takeP 7 rfl (by kernel_rfl) (NP.bl (NP.bl (NP.th (NP.th (NP.bl (NP.th NP.body)))))) (by kernel_rfl) (by kernel_rfl) rfl (PO.extract (v := mv x_396 m_397) rfl rfl) ?_
            refine JA.takeP 8 rfl (by kernel_rfl) (NP.bl (NP.bl (NP.th (NP.th (NP.bl (NP.th NP.body)))))) (by kernel_rfl) (by kernel_rfl) rfl (PO.extract (v := .int .i64 n_398) rfl rfl) ?_
            refine JA.one (i := 9) (by kernel_rfl) ?_
            refine JX.last rfl rfl (by decide) (by kernel_rfl) (JO.store 4 (vs := [.slice x_396.a0 m_397.s.length x_396.c0, .slice x_396.a1 m_397.r.length x_396.c1, .slice x_396.a2 m_397.w.length x_396.c2]) (cs' := [.slice x_396.a0 m_397.s.length x_396.c0, .slice x_396.a1 m_397.r.length x_396.c1, .slice x_396.a2 m_397.w.length x_396.c2]) rfl he_274 rfl rfl Tryz.sizeOf32 rfl rfl (Nat.le_of_ble_eq_true rfl) rfl) ?_
            rintro _ _ rfl
            refine JQ.blockN ?_
            refine JQ.blockN ?_
            refine JQ.seq ?_
            refine JC.region ?_
            refine JL.pure rfl (PO.move (v := .int .i64 ((i_ : Nat) : Int)) he_275) ?_
            refine JL.pure rfl (PO.add (c := ((i_ + 1 : Nat) : Int)) rfl rfl (wr (by omega))) ?_
            refine JL.pure rfl (PO.assign (v := .int .i64 ((i_ + 1 : Nat) : Int)) rfl) ?_
            refine JL.nil ?_
            refine JQ.pick [3, 3, 0, 0, 0, 0, 0] (A := [cb qb qa qc ql qp_382 qs_383, mb b_7 x_396 m_397, rC x_396.a0 x_396.c0 m_397.s, rS x_396.a1 x_396.c1 m_397.r, rS x_396.a2 x_396.c2 m_397.w, Res.row (.slice a_2 0 0) 113 2 0 (([] : List Cell).flatMap encC), bk b_1 32 [.slice none 0 0, .slice none 0 0, .slice none 0 0]]) rfl ?_
            refine JQ.again (8 - (i_ + 1)) (by omega) ⟨(i_ + 1), qp_382, qs_383, x_396, m_397, (by omega), (k_395.mono (by omega) (by omega)), (by omega), he_272, he_273, he_274, rfl, rfl, rfl⟩
          · skip
            refine JC.condF (congrArg Value.bool (decide_eq_false h_357)) ?_
            refine JC.regionA [mb b_7 x1 mm] 8 mixed (by simp) ?_
            refine JA.take 0 rfl (by kernel_rfl) (NP.bl (NP.bl (NP.th (NP.th (NP.bl (NP.th NP.body)))))) (by kernel_rfl) (by kernel_rfl) (by kernel_rfl) rfl (LO.loadK 0 (vs := [.slice x1.a0 mm.s.length x1.c0, .slice x1.a1 mm.r.length x1.c1, .slice x1.a2 mm.w.length x1.c2]) rfl he_274 Tryz.isAgg32 Tryz.sizeOf32 rfl rfl) ?_
            refine JA.takeP 1 rfl (by kernel_rfl) (NP.bl (NP.bl (NP.th (NP.th (NP.bl (NP.th NP.body)))))) (by kernel_rfl) (by kernel_rfl) rfl (PO.move (v := .pointer (some ⟨qb, 0, none⟩)) he_272) ?_
            refine JA.one (i := 2) (by kernel_rfl) ?_
            refine JX.op rfl rfl (JO.call [0] Tryz.call251 rfl (D_name qb qa qc ql qp_283 qs_284 (by omega) (by omega)) rfl (fun w hw => ⟨hw.seeOut_ hs_qa (hpre.2), hw.apart hs_qa (hpre.2) (by simp)⟩)) ?_
            rintro _ _ ⟨_, ⟨qp_406, qs_407, u_409, fq_408, f_410, rfl, rfl⟩, rfl⟩
            refine ⟨(by simp), ?_⟩
            refine JA.one (i := 3) (by kernel_rfl) ?_
            refine JX.op rfl rfl (JO.call [2, 2, 2] Tryz.call141 rfl (M_makeName x1 mm hkmm (by omega) (by omega) u_409 (by omega)) rfl (fun _ _ => trivial)) ?_
            rintro _ _ ⟨_, ⟨x_422, m_423, n_424, n_426, e_420, k_421, f_425, f_427, rfl, rfl⟩, rfl⟩
            refine ⟨(by simp), ?_⟩
            refine JA.takeP 4 rfl (by kernel_rfl) (NP.bl (NP.bl (NP.th (NP.th (NP.bl (NP.th NP.body)))))) (by kernel_rfl) (by kernel_rfl) rfl (PO.move (v := .tuple #[mv x_422 m_423, .int .i64 n_424, .int .i64 n_426]) rfl) ?_
            refine JA.takeP 5 rfl (by kernel_rfl) (NP.bl (NP.bl (NP.th (NP.th (NP.bl (NP.th NP.body)))))) (by kernel_rfl) (by kernel_rfl) rfl (PO.extract (v := mv x_422 m_423) rfl rfl) ?_
            refine JA.takeP 6 rfl (by kernel_rfl) (NP.bl (NP.bl (NP.th (NP.th (NP.bl (NP.th NP.body)))))) (by kernel_rfl) (by kernel_rfl) rfl (PO.extract (v := .int .i64 n_424) rfl rfl) ?_
            refine JA.takeP 7 rfl (by kernel_rfl) (NP.bl (NP.bl (NP.th (NP.th (NP.bl (NP.th NP.body)))))) (by kernel_rfl) (by kernel_rfl) rfl (PO.extract (v := .int .i64 n_426) rfl rfl) ?_
            refine JA.one (i := 8) (by kernel_rfl) ?_
            refine JX.last rfl rfl (by decide) (by kernel_rfl) (JO.store 4 (vs := [.slice x_422.a0 m_423.s.length x_422.c0, .slice x_422.a1 m_423.r.length x_422.c1, .slice x_422.a2 m_423.w.length x_422.c2]) (cs' := [.slice x_422.a0 m_423.s.length x_422.c0, .slice x_422.a1 m_423.r.length x_422.c1, .slice x_422.a2 m_423.w.length x_422.c2]) rfl he_274 rfl rfl Tryz.sizeOf32 rfl rfl (Nat.le_of_ble_eq_true rfl) rfl) ?_
            rintro _ _ rfl
            refine JQ.blockN ?_
            refine JQ.blockN ?_
            refine JQ.seq ?_
            refine JC.region ?_
            refine JL.pure rfl (PO.move (v := .int .i64 ((i_ : Nat) : Int)) he_275) ?_
            refine JL.pure rfl (PO.add (c := ((i_ + 1 : Nat) : Int)) rfl rfl (wr (by omega))) ?_
            refine JL.pure rfl (PO.assign (v := .int .i64 ((i_ + 1 : Nat) : Int)) rfl) ?_
            refine JL.nil ?_
            refine JQ.pick [3, 3, 0, 0, 0, 0, 0] (A := [cb qb qa qc ql qp_406 qs_407, mb b_7 x_422 m_423, rC x_422.a0 x_422.c0 m_423.s, rS x_422.a1 x_422.c1 m_423.r, rS x_422.a2 x_422.c2 m_423.w, Res.row (.slice a_2 0 0) 113 2 0 (([] : List Cell).flatMap encC), bk b_1 32 [.slice none 0 0, .slice none 0 0, .slice none 0 0]]) rfl ?_
            refine JQ.again (8 - (i_ + 1)) (by omega) ⟨(i_ + 1), qp_406, qs_407, x_422, m_423, (by omega), (k_421.mono (by omega) (by omega)), (by omega), he_272, he_273, he_274, rfl, rfl, rfl⟩
    · skip
      refine JC.condF (congrArg Value.bool (decide_eq_false h_282)) ?_
      refine JC.exit ?_
      refine JQ.thenExit ?_
      refine JQ.thenExit ?_
      refine JQ.blockE ?_
      refine JQ.seq ?_
      refine JC.seq ?_
      refine JC.seq ?_
      refine JC.region ?_
      refine JL.pure rfl (PO.move (v := .pointer (some ⟨qb, 0, none⟩)) he_272) ?_
      refine JL.op rfl (JO.call [0] Tryz.call199 rfl (D_once qb qa qc ql qp_276 qs_277 (by omega) (by omega) 10 (by omega)) rfl (fun w hw => ⟨hw.seeOut_ hs_qa (hpre.2), hw.apart hs_qa (hpre.2) (by simp)⟩)) ?_
      rintro _ _ ⟨_, ⟨qp_428, qs_429, b_431, fq_430, rfl, rfl⟩, rfl⟩
      refine JL.nil ?_
      refine JQ.seq ?_
      rcases Bool.eq_false_or_eq_true (b_431) with h_433 | h_433
      · skip
        refine JC.condT (congrArg Value.bool h_433) ?_
        refine JC.regionA [mb b_7 x1 mm] 7 mixed (by simp) ?_
        refine JA.take 0 rfl (by kernel_rfl) (NP.th NP.body) (by kernel_rfl) (by kernel_rfl) (by kernel_rfl) rfl (LO.loadK 0 (vs := [.slice x1.a0 mm.s.length x1.c0, .slice x1.a1 mm.r.length x1.c1, .slice x1.a2 mm.w.length x1.c2]) rfl he_274 Tryz.isAgg32 Tryz.sizeOf32 rfl rfl) ?_
        refine JA.takeP 1 rfl (by kernel_rfl) (NP.th NP.body) (by kernel_rfl) (by kernel_rfl) rfl (PO.move (v := .pointer (some ⟨qb, 0, none⟩)) he_272) ?_
        refine JA.takeP 3 rfl (by kernel_rfl) (NP.th NP.body) (by kernel_rfl) (by kernel_rfl) rfl (PO.move (v := .pointer (some ⟨qb, 0, none⟩)) he_272) ?_
        refine JA.two (i := 2) (j := 4) (by kernel_rfl) ?_ ?_
        · skip
          refine JX.op rfl rfl (JO.call [0] Tryz.call258 rfl (D_key qb qa qc ql qp_428 qs_429 (by omega) (by omega)) rfl (fun w hw => ⟨hw.seeOut_ hs_qa (hpre.2), hw.apart hs_qa (hpre.2) (by simp)⟩)) ?_
          rintro _ _ ⟨_, ⟨qp_447, qs_448, u_450, fq_449, f_451, rfl, rfl⟩, rfl⟩
          refine ⟨(by simp), ?_⟩
          refine JA.one (i := 4) (by kernel_rfl) ?_
          refine JX.op rfl rfl (JO.buildSlice (ps := [(0, str [49]), (1, str [50]), (2, str [120]), (3, str [57, 57, 57])]) (cur := #[str [49], str [50], str [120], str [57, 57, 57]]) Tryz.underlying23 Tryz.sizeOf9 Tryz.zeroValue9 rfl (by kernel_rfl) (by decide) (by decide)) ?_
          rintro _ _ ⟨a_454, rfl, rfl⟩
          refine ⟨(by simp), ?_⟩
          refine JA.one (i := 5) (by kernel_rfl) ?_
          refine JX.op rfl rfl (JO.call [1, 0] Tryz.call259 rfl (D_pick qb qa qc ql qp_447 qs_448 a_454 4 ([[49], [50], [120], [57, 57, 57]] : List Str) (by omega) (by omega) (by simp) (by simp)) rfl (fun w hw => ⟨hw.seeOut_ hs_qa (hpre.2), hw.apart hs_qa (hpre.2) (by simp)⟩)) ?_
          rintro _ _ ⟨_, ⟨qp_461, qs_462, u_464, fq_463, f_465, rfl, rfl⟩, rfl⟩
          have hlu_464 : u_464.length ≤ 64 := by have hx_ := f_465; simp only [List.mem_cons, List.not_mem_nil, or_false] at hx_; rcases hx_ with hx_ | hx_ | hx_ | hx_ <;> first | (rw [hx_]; decide) | (rw [hx_]; omega)
          refine ⟨(by simp), ?_⟩
          refine JA.one (i := 6) (by kernel_rfl) ?_
          refine JX.op rfl rfl (JO.call [2, 2, 2] Tryz.call232 rfl (N_sLay x1 mm hkmm (by omega) (by omega) u_450 u_464 (by omega)) rfl (fun _ _ => trivial)) ?_
          rintro _ _ ⟨_, ⟨x_473, m_474, e_471, k_472, rfl, rfl⟩, rfl⟩
          refine ⟨(by simp), ?_⟩
          refine JA.one (i := 7) (by kernel_rfl) ?_
          refine JX.last rfl rfl (by decide) (by kernel_rfl) (JO.store 4 (vs := [.slice x_473.a0 m_474.s.length x_473.c0, .slice x_473.a1 m_474.r.length x_473.c1, .slice x_473.a2 m_474.w.length x_473.c2]) (cs' := [.slice x_473.a0 m_474.s.length x_473.c0, .slice x_473.a1 m_474.r.length x_473.c1, .slice x_473.a2 m_474.w.length x_473.c2]) rfl he_274 rfl rfl Tryz.sizeOf32 rfl rfl (Nat.le_of_ble_eq_true rfl) rfl) ?_
          rintro _ _ rfl
          refine JQ.seq ?_
          refine JC.seq ?_
          refine JC.region ?_
          refine JL.ld rfl (LO.loadK 4 (vs := [.slice x_473.a0 m_474.s.length x_473.c0, .slice x_473.a1 m_474.r.length x_473.c1, .slice x_473.a2 m_474.w.length x_473.c2]) rfl he_274 Tryz.isAgg32 Tryz.sizeOf32 rfl rfl) ?_
          refine JL.op rfl (JO.store 6 (vs := [.slice x_473.a0 m_474.s.length x_473.c0, .slice x_473.a1 m_474.r.length x_473.c1, .slice x_473.a2 m_474.w.length x_473.c2]) (cs' := [.slice x_473.a0 m_474.s.length x_473.c0, .slice x_473.a1 m_474.r.length x_473.c1, .slice x_473.a2 m_474.w.length x_473.c2]) rfl he_273 rfl rfl Tryz.sizeOf32 rfl rfl (Nat.le_of_ble_eq_true rfl) rfl) ?_
          rintro _ _ rfl
          refine JL.nil ?_
          refine JQ.seq ?_
          refine JC.ret ?_
          refine JQ.perm (pick_perm [3, 0, 0, 0] (A := [cb qb qa qc ql qp_461 qs_462, rC x_473.a0 x_473.c0 m_474.s, rS x_473.a1 x_473.c1 m_474.r, rS x_473.a2 x_473.c2 m_474.w]) (F := [mb b_7 x_473 m_474, Res.row (.slice a_2 0 0) 113 2 0 (([] : List Cell).flatMap encC), mb b_1 x_473 m_474]) rfl).symm ?_
          refine Done.one (.inl rfl) rfl (RV.cell1 (LO.loadK 6 (vs := [.slice x_473.a0 m_474.s.length x_473.c0, .slice x_473.a1 m_474.r.length x_473.c1, .slice x_473.a2 m_474.w.length x_473.c2]) rfl he_273 Tryz.isAgg32 Tryz.sizeOf32 rfl rfl) ⟨_, he_273⟩) (List.sublist_append_left [cb qb qa qc ql qp_461 qs_462, rC x_473.a0 x_473.c0 m_474.s, rS x_473.a1 x_473.c1 m_474.r, rS x_473.a2 x_473.c2 m_474.w] [mb b_7 x_473 m_474, Res.row (.slice a_2 0 0) 113 2 0 (([] : List Cell).flatMap encC), mb b_1 x_473 m_474]) ?_
          exact ⟨qp_461, qs_462, x_473, m_474, (by omega), (k_472.mono (by omega) (by omega)), rfl, rfl⟩
        · skip
          refine JX.op rfl rfl (JO.buildSlice (ps := [(0, str [49]), (1, str [50]), (2, str [120]), (3, str [57, 57, 57])]) (cur := #[str [49], str [50], str [120], str [57, 57, 57]]) Tryz.underlying23 Tryz.sizeOf9 Tryz.zeroValue9 rfl (by kernel_rfl) (by decide) (by decide)) ?_
          rintro _ _ ⟨a_475, rfl, rfl⟩
          refine ⟨(by simp), ?_⟩
          refine JA.one (i := 2) (by kernel_rfl) ?_
          refine JX.op rfl rfl (JO.call [1] Tryz.call258 rfl (D_key qb qa qc ql qp_428 qs_429 (by omega) (by omega)) rfl (fun w hw => ⟨hw.seeOut_ hs_qa (hpre.2), hw.apart hs_qa (hpre.2) (by simp)⟩)) ?_
          rintro _ _ ⟨_, ⟨qp_482, qs_483, u_485, fq_484, f_486, rfl, rfl⟩, rfl⟩
          refine ⟨(by simp), ?_⟩
          refine JA.one (i := 5) (by kernel_rfl) ?_
          refine JX.op rfl rfl (JO.call [0, 0] Tryz.call259 rfl (D_pick qb qa qc ql qp_482 qs_483 a_475 4 ([[49], [50], [120], [57, 57, 57]] : List Str) (by omega) (by omega) (by simp) (by simp)) rfl (fun w hw => ⟨hw.seeOut_ hs_qa (hpre.2), hw.apart hs_qa (hpre.2) (by simp)⟩)) ?_
          rintro _ _ ⟨_, ⟨qp_494, qs_495, u_497, fq_496, f_498, rfl, rfl⟩, rfl⟩
          have hlu_497 : u_497.length ≤ 64 := by have hx_ := f_498; simp only [List.mem_cons, List.not_mem_nil, or_false] at hx_; rcases hx_ with hx_ | hx_ | hx_ | hx_ <;> first | (rw [hx_]; decide) | (rw [hx_]; omega)
          refine ⟨(by simp), ?_⟩
          refine JA.one (i := 6) (by kernel_rfl) ?_
          refine JX.op rfl rfl (JO.call [2, 2, 2] Tryz.call232 rfl (N_sLay x1 mm hkmm (by omega) (by omega) u_485 u_497 (by omega)) rfl (fun _ _ => trivial)) ?_
          rintro _ _ ⟨_, ⟨x_506, m_507, e_504, k_505, rfl, rfl⟩, rfl⟩
          refine ⟨(by simp), ?_⟩
          refine JA.one (i := 7) (by kernel_rfl) ?_
          refine JX.last rfl rfl (by decide) (by kernel_rfl) (JO.store 4 (vs := [.slice x_506.a0 m_507.s.length x_506.c0, .slice x_506.a1 m_507.r.length x_506.c1, .slice x_506.a2 m_507.w.length x_506.c2]) (cs' := [.slice x_506.a0 m_507.s.length x_506.c0, .slice x_506.a1 m_507.r.length x_506.c1, .slice x_506.a2 m_507.w.length x_506.c2]) rfl he_274 rfl rfl Tryz.sizeOf32 rfl rfl (Nat.le_of_ble_eq_true rfl) rfl) ?_
          rintro _ _ rfl
          refine JQ.seq ?_
          refine JC.seq ?_
          refine JC.region ?_
          refine JL.ld rfl (LO.loadK 4 (vs := [.slice x_506.a0 m_507.s.length x_506.c0, .slice x_506.a1 m_507.r.length x_506.c1, .slice x_506.a2 m_507.w.length x_506.c2]) rfl he_274 Tryz.isAgg32 Tryz.sizeOf32 rfl rfl) ?_
          refine JL.op rfl (JO.store 6 (vs := [.slice x_506.a0 m_507.s.length x_506.c0, .slice x_506.a1 m_507.r.length x_506.c1, .slice x_506.a2 m_507.w.length x_506.c2]) (cs' := [.slice x_506.a0 m_507.s.length x_506.c0, .slice x_506.a1 m_507.r.length x_506.c1, .slice x_506.a2 m_507.w.length x_506.c2]) rfl he_273 rfl rfl Tryz.sizeOf32 rfl rfl (Nat.le_of_ble_eq_true rfl) rfl) ?_
          rintro _ _ rfl
          refine JL.nil ?_
          refine JQ.seq ?_
          refine JC.ret ?_
          refine JQ.perm (pick_perm [3, 0, 0, 0] (A := [cb qb qa qc ql qp_494 qs_495, rC x_506.a0 x_506.c0 m_507.s, rS x_506.a1 x_506.c1 m_507.r, rS x_506.a2 x_506.c2 m_507.w]) (F := [mb b_7 x_506 m_507, Res.row (.slice a_2 0 0) 113 2 0 (([] : List Cell).flatMap encC), mb b_1 x_506 m_507]) rfl).symm ?_
          refine Done.one (.inl rfl) rfl (RV.cell1 (LO.loadK 6 (vs := [.slice x_506.a0 m_507.s.length x_506.c0, .slice x_506.a1 m_507.r.length x_506.c1, .slice x_506.a2 m_507.w.length x_506.c2]) rfl he_273 Tryz.isAgg32 Tryz.sizeOf32 rfl rfl) ⟨_, he_273⟩) (List.sublist_append_left [cb qb qa qc ql qp_494 qs_495, rC x_506.a0 x_506.c0 m_507.s, rS x_506.a1 x_506.c1 m_507.r, rS x_506.a2 x_506.c2 m_507.w] [mb b_7 x_506 m_507, Res.row (.slice a_2 0 0) 113 2 0 (([] : List Cell).flatMap encC), mb b_1 x_506 m_507]) ?_
          exact ⟨qp_494, qs_495, x_506, m_507, (by omega), (k_505.mono (by omega) (by omega)), rfl, rfl⟩
      · skip
        refine JC.condF (congrArg Value.bool h_433) ?_
        refine JC.skip ?_
        refine JQ.seq ?_
        refine JC.seq ?_
        refine JC.region ?_
        refine JL.ld rfl (LO.loadK 1 (vs := [.slice x1.a0 mm.s.length x1.c0, .slice x1.a1 mm.r.length x1.c1, .slice x1.a2 mm.w.length x1.c2]) rfl he_274 Tryz.isAgg32 Tryz.sizeOf32 rfl rfl) ?_
        refine JL.op rfl (JO.store 6 (vs := [.slice x1.a0 mm.s.length x1.c0, .slice x1.a1 mm.r.length x1.c1, .slice x1.a2 mm.w.length x1.c2]) (cs' := [.slice x1.a0 mm.s.length x1.c0, .slice x1.a1 mm.r.length x1.c1, .slice x1.a2 mm.w.length x1.c2]) rfl he_273 rfl rfl Tryz.sizeOf32 rfl rfl (Nat.le_of_ble_eq_true rfl) rfl) ?_
        rintro _ _ rfl
        refine JL.nil ?_
        refine JQ.seq ?_
        refine JC.ret ?_
        refine JQ.perm (pick_perm [0, 1, 1, 1] (A := [cb qb qa qc ql qp_428 qs_429, rC x1.a0 x1.c0 mm.s, rS x1.a1 x1.c1 mm.r, rS x1.a2 x1.c2 mm.w]) (F := [mb b_7 x1 mm, Res.row (.slice a_2 0 0) 113 2 0 (([] : List Cell).flatMap encC), mb b_1 x1 mm]) rfl).symm ?_
        refine Done.one (.inl rfl) rfl (RV.cell1 (LO.loadK 6 (vs := [.slice x1.a0 mm.s.length x1.c0, .slice x1.a1 mm.r.length x1.c1, .slice x1.a2 mm.w.length x1.c2]) rfl he_273 Tryz.isAgg32 Tryz.sizeOf32 rfl rfl) ⟨_, he_273⟩) (List.sublist_append_left [cb qb qa qc ql qp_428 qs_429, rC x1.a0 x1.c0 mm.s, rS x1.a1 x1.c1 mm.r, rS x1.a2 x1.c2 mm.w] [mb b_7 x1 mm, Res.row (.slice a_2 0 0) 113 2 0 (([] : List Cell).flatMap encC), mb b_1 x1 mm]) ?_
        exact ⟨qp_428, qs_429, x1, mm, (by omega), (hkmm.mono (by omega) (by omega)), rfl, rfl⟩

theorem D_l06Both (pa : Option Addr) (pc : Nat) (p : Str) (hp : p.length ≤ 1048576)  :
    Ct Tryz.prog 148 [.slice pa p.length pc] [] (fun w => Sees w (.slice pa p.length pc) 1 p.length (p.map encB)) (fun v A' => ∃ r0x r0 r1 r2, r0.ok (30) (500) ∧ (r1.length ≤ 64) ∧ (r2.length ≤ 64) ∧ v = .tuple #[mv r0x r0, str r1, str r2] ∧ A' = mr r0x r0) := by
  refine Ct.intro Tryz.func148 rfl Tryz.ntmps148 (Nat.le_of_ble_eq_true rfl) fun w0 hpre => ?_
  have hs_pa : Sees w0 _ _ _ _ := hpre
  refine JC.seq ?_
  refine JC.region ?_
  refine JL.op rfl (JO.alloc (z := .agg #[.slice none 0 0, .slice none 0 0, .slice none 0 0]) (cs := [.slice none 0 0, .slice none 0 0, .slice none 0 0]) Tryz.zeroValue32 rfl) ?_
  rintro _ _ ⟨b_1, rfl, rfl⟩
  refine JL.pure rfl (PO.assign (v := str []) rfl) ?_
  refine JL.pure rfl (PO.assign (v := str []) rfl) ?_
  refine JL.nil ?_
  refine JQ.seq ?_
  refine JC.seq ?_
  refine JC.region ?_
  refine JL.pure rfl (PO.move (v := .slice pa p.length pc) rfl) ?_
  refine JL.op rfl (JO.call [] Tryz.call157 rfl (D_new pa pc p (by omega)) rfl (fun w hw => hw.seeOut_ hs_pa (fun _ _ => List.not_mem_nil))) ?_
  rintro _ _ ⟨_, ⟨c_2, qs_3, -, rfl, rfl⟩, rfl⟩
  refine JL.pure rfl (PO.assign (v := .pointer (some ⟨c_2, 0, none⟩)) rfl) ?_
  refine JL.nil ?_
  refine JQ.seq ?_
  refine JC.seq ?_
  refine JC.region ?_
  refine JL.pure rfl (PO.move (v := .pointer (some ⟨c_2, 0, none⟩)) rfl) ?_
  refine JL.op rfl (JO.call [0] Tryz.call156 rfl (D_mach06 c_2 pa pc p 0 qs_3 (by omega) (by omega)) rfl (fun w hw => ⟨hw.seeOut_ hs_pa (fun _ _ => List.not_mem_nil), hw.apart hs_pa (fun _ _ => List.not_mem_nil) (by simp)⟩)) ?_
  rintro _ _ ⟨_, ⟨qp_5, qs_6, x_8, m_9, fq_7, k_10, rfl, rfl⟩, rfl⟩
  refine JL.pure rfl (PO.move (v := .pointer (some ⟨c_2, 0, none⟩)) rfl) ?_
  refine JL.op rfl (JO.call [0] Tryz.call251 rfl (D_name c_2 pa pc p qp_5 qs_6 (by omega) (by omega)) rfl (fun w hw => ⟨hw.seeOut_ hs_pa (fun _ _ => List.not_mem_nil), hw.apart hs_pa (fun _ _ => List.not_mem_nil) (by simp)⟩)) ?_
  rintro _ _ ⟨_, ⟨qp_12, qs_13, u_15, fq_14, f_16, rfl, rfl⟩, rfl⟩
  refine JL.pure rfl (PO.move (v := .pointer (some ⟨c_2, 0, none⟩)) rfl) ?_
  refine JL.op rfl (JO.call [0] Tryz.call251 rfl (D_name c_2 pa pc p qp_12 qs_13 (by omega) (by omega)) rfl (fun w hw => ⟨hw.seeOut_ hs_pa (fun _ _ => List.not_mem_nil), hw.apart hs_pa (fun _ _ => List.not_mem_nil) (by simp)⟩)) ?_
  rintro _ _ ⟨_, ⟨qp_18, qs_19, u_21, fq_20, f_22, rfl, rfl⟩, rfl⟩
  refine JL.op rfl (JO.store 4 (vs := [.slice x_8.a0 m_9.s.length x_8.c0, .slice x_8.a1 m_9.r.length x_8.c1, .slice x_8.a2 m_9.w.length x_8.c2]) (cs' := [.slice x_8.a0 m_9.s.length x_8.c0, .slice x_8.a1 m_9.r.length x_8.c1, .slice x_8.a2 m_9.w.length x_8.c2]) rfl rfl rfl rfl Tryz.sizeOf32 rfl rfl (Nat.le_of_ble_eq_true rfl) rfl) ?_
  rintro _ _ rfl
  refine JL.pure rfl (PO.assign (v := str u_15) rfl) ?_
  refine JL.pure rfl (PO.assign (v := str u_21) rfl) ?_
  refine JL.nil ?_
  refine JQ.seq ?_
  refine JC.ret ?_
  refine JQ.perm (pick_perm [1, 1, 1] (A := [rC x_8.a0 x_8.c0 m_9.s, rS x_8.a1 x_8.c1 m_9.r, rS x_8.a2 x_8.c2 m_9.w]) (F := [cb c_2 pa pc p qp_18 qs_19, mb b_1 x_8 m_9]) rfl).symm ?_
  refine Done.three (.inl rfl) rfl (RV.cell1 (LO.loadK 4 (vs := [.slice x_8.a0 m_9.s.length x_8.c0, .slice x_8.a1 m_9.r.length x_8.c1, .slice x_8.a2 m_9.w.length x_8.c2]) rfl rfl Tryz.isAgg32 Tryz.sizeOf32 rfl rfl) ⟨_, rfl⟩) (RV.tmp (v := str u_15) rfl) (RV.tmp (v := str u_21) rfl) (List.sublist_append_left [rC x_8.a0 x_8.c0 m_9.s, rS x_8.a1 x_8.c1 m_9.r, rS x_8.a2 x_8.c2 m_9.w] [cb c_2 pa pc p qp_18 qs_19, mb b_1 x_8 m_9]) ?_
  exact ⟨x_8, m_9, u_15, u_21, (k_10.mono (by omega) (by omega)), (by first | omega | (simp only [List.length_append, List.length_cons, List.length_nil, List.length_take, List.length_drop]; omega)), (by first | omega | (simp only [List.length_append, List.length_cons, List.length_nil, List.length_take, List.length_drop]; omega)), rfl, rfl⟩

theorem D_dRenameName (pa : Option Addr) (pc : Nat) (p : Str) (hp : p.length ≤ 1048576)  :
    Ct Tryz.prog 45 [.slice pa p.length pc] [] (fun w => Sees w (.slice pa p.length pc) 1 p.length (p.map encB)) (fun v A' => ∃ r0x r0 r1 r2, r0.ok (30) (500) ∧ (r1.length ≤ 64) ∧ (r2.length ≤ 64) ∧ v = .tuple #[mv r0x r0, str r1, str r2] ∧ A' = mr r0x r0) := by
  refine Ct.intro Tryz.func45 rfl Tryz.ntmps45 (Nat.le_of_ble_eq_true rfl) fun w0 hpre => ?_
  have hs_pa : Sees w0 _ _ _ _ := hpre
  refine JC.seq ?_
  refine JC.region ?_
  refine JL.op rfl (JO.alloc (z := .agg #[.slice none 0 0, .slice none 0 0, .slice none 0 0]) (cs := [.slice none 0 0, .slice none 0 0, .slice none 0 0]) Tryz.zeroValue32 rfl) ?_
  rintro _ _ ⟨b_1, rfl, rfl⟩
  refine JL.pure rfl (PO.assign (v := str []) rfl) ?_
  refine JL.pure rfl (PO.assign (v := str []) rfl) ?_
  refine JL.nil ?_
  refine JQ.seq ?_
  refine JC.seq ?_
  refine JC.region ?_
  refine JL.pure rfl (PO.move (v := .slice pa p.length pc) rfl) ?_
  refine JL.op rfl (JO.call [] Tryz.call148 rfl (D_l06Both pa pc p (by omega)) rfl (fun w hw => hw.seeOut_ hs_pa (fun _ _ => List.not_mem_nil))) ?_
  rintro _ _ ⟨_, ⟨x_2, m_3, u_5, u_7, k_4, f_6, f_8, rfl, rfl⟩, rfl⟩
  refine JL.pure rfl (PO.extract (v := mv x_2 m_3) rfl rfl) ?_
  refine JL.pure rfl (PO.extract (v := str u_5) rfl rfl) ?_
  refine JL.pure rfl (PO.extract (v := str u_7) rfl rfl) ?_
  refine JL.op rfl (JO.store 3 (vs := [.slice x_2.a0 m_3.s.length x_2.c0, .slice x_2.a1 m_3.r.length x_2.c1, .slice x_2.a2 m_3.w.length x_2.c2]) (cs' := [.slice x_2.a0 m_3.s.length x_2.c0, .slice x_2.a1 m_3.r.length x_2.c1, .slice x_2.a2 m_3.w.length x_2.c2]) rfl rfl rfl rfl Tryz.sizeOf32 rfl rfl (Nat.le_of_ble_eq_true rfl) rfl) ?_
  rintro _ _ rfl
  refine JL.pure rfl (PO.assign (v := str u_5) rfl) ?_
  refine JL.pure rfl (PO.assign (v := str u_7) rfl) ?_
  refine JL.nil ?_
  refine JQ.seq ?_
  refine JC.ret ?_
  refine Done.three (.inl rfl) rfl (RV.cell1 (LO.loadK 3 (vs := [.slice x_2.a0 m_3.s.length x_2.c0, .slice x_2.a1 m_3.r.length x_2.c1, .slice x_2.a2 m_3.w.length x_2.c2]) rfl rfl Tryz.isAgg32 Tryz.sizeOf32 rfl rfl) ⟨_, rfl⟩) (RV.tmp (v := str u_5) rfl) (RV.tmp (v := str u_7) rfl) (List.sublist_append_left [rC x_2.a0 x_2.c0 m_3.s, rS x_2.a1 x_2.c1 m_3.r, rS x_2.a2 x_2.c2 m_3.w] [mb b_1 x_2 m_3]) ?_
  exact ⟨x_2, m_3, u_5, u_7, (k_4.mono (by omega) (by omega)), (by first | omega | (simp only [List.length_append, List.length_cons, List.length_nil, List.length_take, List.length_drop]; omega)), (by first | omega | (simp only [List.length_append, List.length_cons, List.length_nil, List.length_take, List.length_drop]; omega)), rfl, rfl⟩

theorem D_dNamesIn (pa : Option Addr) (pc : Nat) (p : Str) (hp : p.length ≤ 1048576)  :
    Ct Tryz.prog 48 [.slice pa p.length pc] [] (fun w => Sees w (.slice pa p.length pc) 1 p.length (p.map encB)) (fun v A' => ∃ r0x r0, r0.ok (30) (500) ∧ v = mv r0x r0 ∧ A' = mr r0x r0) := by
  refine Ct.intro Tryz.func48 rfl Tryz.ntmps48 (Nat.le_of_ble_eq_true rfl) fun w0 hpre => ?_
  have hs_pa : Sees w0 _ _ _ _ := hpre
  refine JC.seq ?_
  refine JC.region ?_
  refine JL.op rfl (JO.alloc (z := .agg #[.slice none 0 0, .slice none 0 0, .slice none 0 0]) (cs := [.slice none 0 0, .slice none 0 0, .slice none 0 0]) Tryz.zeroValue32 rfl) ?_
  rintro _ _ ⟨b_1, rfl, rfl⟩
  refine JL.nil ?_
  refine JQ.seq ?_
  refine JC.seq ?_
  refine JC.region ?_
  refine JL.pure rfl (PO.move (v := .slice pa p.length pc) rfl) ?_
  refine JL.op rfl (JO.call [] Tryz.call157 rfl (D_new pa pc p (by omega)) rfl (fun w hw => hw.seeOut_ hs_pa (fun _ _ => List.not_mem_nil))) ?_
  rintro _ _ ⟨_, ⟨c_2, qs_3, -, rfl, rfl⟩, rfl⟩
  refine JL.op rfl (JO.call [0] Tryz.call156 rfl (D_mach06 c_2 pa pc p 0 qs_3 (by omega) (by omega)) rfl (fun w hw => ⟨hw.seeOut_ hs_pa (fun _ _ => List.not_mem_nil), hw.apart hs_pa (fun _ _ => List.not_mem_nil) (by simp)⟩)) ?_
  rintro _ _ ⟨_, ⟨qp_5, qs_6, x_8, m_9, fq_7, k_10, rfl, rfl⟩, rfl⟩
  refine JL.op rfl (JO.store 4 (vs := [.slice x_8.a0 m_9.s.length x_8.c0, .slice x_8.a1 m_9.r.length x_8.c1, .slice x_8.a2 m_9.w.length x_8.c2]) (cs' := [.slice x_8.a0 m_9.s.length x_8.c0, .slice x_8.a1 m_9.r.length x_8.c1, .slice x_8.a2 m_9.w.length x_8.c2]) rfl rfl rfl rfl Tryz.sizeOf32 rfl rfl (Nat.le_of_ble_eq_true rfl) rfl) ?_
  rintro _ _ rfl
  refine JL.nil ?_
  refine JQ.seq ?_
  refine JC.ret ?_
  refine JQ.perm (pick_perm [1, 1, 1] (A := [rC x_8.a0 x_8.c0 m_9.s, rS x_8.a1 x_8.c1 m_9.r, rS x_8.a2 x_8.c2 m_9.w]) (F := [cb c_2 pa pc p qp_5 qs_6, mb b_1 x_8 m_9]) rfl).symm ?_
  refine Done.one (.inl rfl) rfl (RV.cell1 (LO.loadK 4 (vs := [.slice x_8.a0 m_9.s.length x_8.c0, .slice x_8.a1 m_9.r.length x_8.c1, .slice x_8.a2 m_9.w.length x_8.c2]) rfl rfl Tryz.isAgg32 Tryz.sizeOf32 rfl rfl) ⟨_, rfl⟩) (List.sublist_append_left [rC x_8.a0 x_8.c0 m_9.s, rS x_8.a1 x_8.c1 m_9.r, rS x_8.a2 x_8.c2 m_9.w] [cb c_2 pa pc p qp_5 qs_6, mb b_1 x_8 m_9]) ?_
  exact ⟨x_8, m_9, (k_10.mono (by omega) (by omega)), rfl, rfl⟩

end Go.Proofs.YtenfajgpdhgknaaGreatDoor
