/-
  The laws on calls of a machine, walked: each says yes, whatever it is handed.
-/
import Derived.Test.YthdgcbdfcclgbaaGreatDoorS28HARN
import Derived.Test.YthdgcbdfcclgbaaGreatDoorDatD
set_option linter.unusedSimpArgs false
set_option linter.unusedVariables false
set_option linter.unnecessarySimpa false
set_option maxRecDepth 4000
namespace Go.Proofs.YthdgcbdfcclgbaaGreatDoor
open Go Go.RowKit
attribute [local irreducible] JL JC JQ JO LO PO JA JX Ct

set_option maxHeartbeats 1600000 in
theorem L_DoCall (x : MA) (m : MS) (aProc : Int) (aC : CL) (haProc : -9223372036854775808 ≤ aProc ∧ aProc ≤ 9223372036854775807) (haC : aC.ok 9223372036854775807) (hok_s : okC m.s) (hok_r : okS m.r) (hok_w : okS m.w) :
    Ct Tryz.prog 3 [mv x m, .int .i64 aProc, .agg #[.int .i64 aC.kind, str aC.name, str aC.to_, .int .i64 aC.a, .int .i64 aC.b, str aC.text]] [] (fun w => seesM w x m ∧ HexOk w) (fun v A' => v = .bool true ∧ A' = []) := by
  refine Ct.introL Tryz.func3 rfl Tryz.ntmps3 (lb rfl) fun w0 hpre hlow => ?_
  obtain ⟨haC1, haC2, haC3, haC4, haC5, haC6⟩ := id haC
  have hs_x_a0 : Sees w0 _ _ _ _ := hpre.1.1
  have hs_x_a1 : Sees w0 _ _ _ _ := hpre.1.2.1
  have hs_x_a2 : Sees w0 _ _ _ _ := hpre.1.2.2
  refine jD <| jF ?_
  refine jH rfl (jv (cs := (mc x m)) rfl rfl) ?_
  rintro _ _ ⟨b_1, rfl, rfl⟩
  refine jH rfl (jv (cs := [iv aC.kind, str aC.name, str aC.to_, iv aC.a, iv aC.b, str aC.text]) rfl rfl) ?_
  rintro _ _ ⟨b_2, rfl, rfl⟩
  refine jA (jG (v := .bool false) rfl) <| jE <| jB <| jD <| jF <| jA (jG (v := iv 1048576) rfl) <| jE <| jB <| jD <| jF ?_
  refine jT (jf 1 (vs := (mc x m)) rfl rfl Tryz.isAgg27 Tryz.sizeOf27 rfl rfl) <| jA (jC (v := iv 1048576) rfl) ?_
  refine jH rfl (jI [] Tryz.call4 rfl (N_szMach x m hok_s hok_r hok_w) rfl (fun w hw => ⟨hw.seeOut_ hs_x_a0 nM, hw.seeOut_ hs_x_a1 nM, hw.seeOut_ hs_x_a2 nM⟩)) ?_
  rintro _ _ ⟨_, ⟨rfl, rfl⟩, rfl⟩
  refine jA (jG (v := iv (szMach m 1048576)) rfl) <| jE <| jB <| jD <| jD <| jF <| jA (jC (v := iv (szMach m 1048576)) rfl) <| jA (js rfl rfl) <| jE <| jB ?_
  by_cases h_3 : (szMach m 1048576) < 0
  · refine jR (cB (dT h_3)) <| jD <| jF <| jA (jG (v := .bool true) rfl) <| jE <| jB <| jM <| jX <| jV (.inl rfl) rfl (jN (v := .bool true) rfl) (List.nil_sublist _) ?_
    exact ⟨rfl, rfl⟩
  have hok := szMach_ok h_3
  have hszm := szMach_le m
  refine jQ (cB (dF h_3)) <| jU <| jB <| jD <| jF <| jT (jf 0 (vs := [iv aC.kind, str aC.name, str aC.to_, iv aC.a, iv aC.b, str aC.text]) rfl rfl Tryz.isAgg29 Tryz.sizeOf29 rfl rfl) <| jA (jC (v := iv (szMach m 1048576)) rfl) ?_
  refine jH rfl (jI [] Tryz.call5 rfl (N_szCall aC (szMach m 1048576) haC (by omega) (by omega)) rfl (fun _ _ => trivial)) ?_
  rintro _ _ ⟨_, ⟨_, rfl, rfl, rfl⟩, rfl⟩
  refine jA (jG (v := iv (szCallF aC (szMach m 1048576))) rfl) <| jE <| jB <| jD <| jD <| jF <| jA (jC (v := iv (szCallF aC (szMach m 1048576))) rfl) <| jA (js rfl rfl) <| jE <| jB ?_
  by_cases h_4 : (szCallF aC (szMach m 1048576)) < 0
  · refine jR (cB (dT h_4)) <| jD <| jF <| jA (jG (v := .bool true) rfl) <| jE <| jB <| jM <| jX <| jV (.inl rfl) rfl (jN (v := .bool true) rfl) (List.nil_sublist _) ?_
    exact ⟨rfl, rfl⟩
  have hsz_ := szCall_ok h_4
  have hcK : aC.ok 1048576 := ⟨haC.1, haC.2, haC.3, by omega, by omega, by omega⟩
  refine jQ (cB (dF h_4)) <| jU <| jB <| jD ?_
  refine JC.cut (fun e_ L_ => ∃ x_7 : MA, ∃ x_11 : MA, ∃ m_12 : MS, ∃ A_13 : AN, ∃ b_15 : Nat, ∃ b_16 : Nat, (MS.doCall m aProc aC = (m_12, A_13)) ∧ (m_12.ok (3 * 1048576 + 20) (1048576 + 7 * 1048576 + 200)) ∧ ((0 ≤ A_13.code ∧ A_13.code ≤ 9) ∧ (-1 ≤ A_13.n ∧ A_13.n ≤ 1000000000) ∧ A_13.text.length ≤ 2000000000000) ∧ e_ 1 = iv aProc ∧ e_ 3 = .pointer (some ⟨b_1, 0, none⟩) ∧ e_ 5 = .pointer (some ⟨b_2, 0, none⟩) ∧ e_ 6 = .bool false ∧ e_ 8 = .pointer (some ⟨b_15, 0, none⟩) ∧ e_ 9 = .pointer (some ⟨b_16, 0, none⟩) ∧ L_ = [bk b_16 37 [iv A_13.code, iv A_13.n, str A_13.text], mb b_15 x_11 m_12, rC x_11.a0 x_11.c0 m_12.s, rS x_11.a1 x_11.c1 m_12.r, rS x_11.a2 x_11.c2 m_12.w, rC x_7.a0 x_7.c0 m.s, rS x_7.a1 x_7.c1 m.r, rS x_7.a2 x_7.c2 m.w, bk b_2 29 [iv aC.kind, str aC.name, str aC.to_, iv aC.a, iv aC.b, str aC.text], bk b_1 27 (mc x m)]) ?_ ?_
  · refine jq [bk b_2 29 [iv aC.kind, str aC.name, str aC.to_, iv aC.a, iv aC.b, str aC.text], bk b_1 27 (mc x m)] 11 mixed (by simp) <| jl 0 rfl (jf 1 (vs := (mc x m)) rfl rfl Tryz.isAgg27 Tryz.sizeOf27 rfl rfl) <| jK 2 rfl (jC (v := iv aProc) rfl) <| jl 3 rfl (jf 0 (vs := [iv aC.kind, str aC.name, str aC.to_, iv aC.a, iv aC.b, str aC.text]) rfl rfl Tryz.isAgg29 Tryz.sizeOf29 rfl rfl) ?_
    refine JA.three (i := 1) (j := 9) (k := 10) (by kernel_rfl) ?_ ?_ ?_
    · refine jO rfl rfl (jI [] Tryz.call7 rfl (N_toMach x m hok (by omega) (by omega)) rfl (fun w hw => ⟨hw.seeOut_ hs_x_a0 nM, hw.seeOut_ hs_x_a1 nM, hw.seeOut_ hs_x_a2 nM⟩)) ?_
      rintro _ _ ⟨_, ⟨x_33, m_34, rfl, k_32, rfl, rfl⟩, rfl⟩
      refine ⟨(by simp), ?_⟩
      refine JA.three (i := 4) (j := 9) (k := 10) (by kernel_rfl) ?_ ?_ ?_
      · refine jO rfl rfl (jI [] Tryz.call8 rfl (N_toCall aC) rfl (fun _ _ => trivial)) ?_
        rintro _ _ ⟨_, ⟨rfl, rfl⟩, rfl⟩
        refine ⟨(by simp), ?_⟩
        refine JA.three (i := 5) (j := 9) (k := 10) (by kernel_rfl) ?_ ?_ ?_
        · refine jO rfl rfl (jI [] Tryz.call6 rfl (Q_do x_33 m k_32 (by omega) (by omega) aProc aC (by omega) hcK) rfl (fun w hw => ⟨hw.see (i := 0) rfl, hw.see (i := 1) rfl, hw.see (i := 2) rfl⟩)) ?_
          rintro _ _ ⟨_, ⟨x_47, m_48, A_49, e_45, k_46, f_50, rfl, rfl⟩, rfl⟩
          refine ⟨(by simp), ?_⟩
          refine jK 6 rfl (jC (v := .tuple #[mv x_47 m_48, .agg #[iv A_49.code, iv A_49.n, str A_49.text]]) rfl) <| jK 7 rfl (jS (v := mv x_47 m_48) rfl rfl) <| jK 8 rfl (jS (v := .agg #[iv A_49.code, iv A_49.n, str A_49.text]) rfl rfl) ?_
          refine kM (i := 9) (j := 10) (by kernel_rfl) ?_ ?_
          · refine jO rfl rfl (jh (z := zM) (cs := zC) kd rfl) ?_
            rintro _ _ ⟨b_53, rfl, rfl⟩
            refine ⟨(by simp), ?_⟩
            refine jL (i := 10) ?_
            refine jO rfl rfl (jh (z := .agg #[iv 0, iv 0, str []]) (cs := [iv 0, iv 0, str []]) kg rfl) ?_
            rintro _ _ ⟨b_55, rfl, rfl⟩
            refine ⟨(by simp), ?_⟩
            refine jL (i := 11) ?_
            refine jo rfl (jW 1 x_47 m_48 rfl rfl rfl rfl) ?_
            rintro _ _ rfl
            refine jL (i := 12) ?_
            refine jp rfl (jc 0 (vs := [iv A_49.code, iv A_49.n, str A_49.text]) (cs' := [iv A_49.code, iv A_49.n, str A_49.text]) rfl rfl rfl rfl kV rfl rfl (lb rfl) rfl) ?_
            rintro _ _ rfl
            refine jr [0, 0, 0, 0, 0, 0, 0, 0, 0, 0] (A := [bk b_55 37 [iv A_49.code, iv A_49.n, str A_49.text], mb b_53 x_47 m_48, rC x_47.a0 x_47.c0 m_48.s, rS x_47.a1 x_47.c1 m_48.r, rS x_47.a2 x_47.c2 m_48.w, rC x_33.a0 x_33.c0 m.s, rS x_33.a1 x_33.c1 m.r, rS x_33.a2 x_33.c2 m.w, bk b_2 29 [iv aC.kind, str aC.name, str aC.to_, iv aC.a, iv aC.b, str aC.text], bk b_1 27 (mc x m)]) rfl ?_
            exact jy ⟨x_33, x_47, m_48, A_49, b_53, b_55, e_45, k_46, f_50, rfl, rfl, rfl, rfl, rfl, rfl, rfl⟩
          refine jO rfl rfl (jh (z := .agg #[iv 0, iv 0, str []]) (cs := [iv 0, iv 0, str []]) kg rfl) ?_
          rintro _ _ ⟨b_56, rfl, rfl⟩
          refine ⟨(by simp), ?_⟩
          refine jL (i := 9) ?_
          refine jO rfl rfl (jh (z := zM) (cs := zC) kd rfl) ?_
          rintro _ _ ⟨b_58, rfl, rfl⟩
          refine ⟨(by simp), ?_⟩
          refine jL (i := 11) ?_
          refine jo rfl (jW 0 x_47 m_48 rfl rfl rfl rfl) ?_
          rintro _ _ rfl
          refine jL (i := 12) ?_
          refine jp rfl (jc 1 (vs := [iv A_49.code, iv A_49.n, str A_49.text]) (cs' := [iv A_49.code, iv A_49.n, str A_49.text]) rfl rfl rfl rfl kV rfl rfl (lb rfl) rfl) ?_
          rintro _ _ rfl
          refine jr [1, 0, 0, 0, 0, 0, 0, 0, 0, 0] (A := [bk b_56 37 [iv A_49.code, iv A_49.n, str A_49.text], mb b_58 x_47 m_48, rC x_47.a0 x_47.c0 m_48.s, rS x_47.a1 x_47.c1 m_48.r, rS x_47.a2 x_47.c2 m_48.w, rC x_33.a0 x_33.c0 m.s, rS x_33.a1 x_33.c1 m.r, rS x_33.a2 x_33.c2 m.w, bk b_2 29 [iv aC.kind, str aC.name, str aC.to_, iv aC.a, iv aC.b, str aC.text], bk b_1 27 (mc x m)]) rfl ?_
          exact jy ⟨x_33, x_47, m_48, A_49, b_58, b_56, e_45, k_46, f_50, rfl, rfl, rfl, rfl, rfl, rfl, rfl⟩
        · refine jO rfl rfl (jh (z := zM) (cs := zC) kd rfl) ?_
          rintro _ _ ⟨b_59, rfl, rfl⟩
          refine ⟨(by simp), ?_⟩
          refine kM (i := 5) (j := 10) (by kernel_rfl) ?_ ?_
          · refine jO rfl rfl (jI [] Tryz.call6 rfl (Q_do x_33 m k_32 (by omega) (by omega) aProc aC (by omega) hcK) rfl (fun w hw => ⟨hw.see (i := 1) rfl, hw.see (i := 2) rfl, hw.see (i := 3) rfl⟩)) ?_
            rintro _ _ ⟨_, ⟨x_69, m_70, A_71, e_67, k_68, f_72, rfl, rfl⟩, rfl⟩
            refine ⟨(by simp), ?_⟩
            refine jK 6 rfl (jC (v := .tuple #[mv x_69 m_70, .agg #[iv A_71.code, iv A_71.n, str A_71.text]]) rfl) <| jK 7 rfl (jS (v := mv x_69 m_70) rfl rfl) <| jK 8 rfl (jS (v := .agg #[iv A_71.code, iv A_71.n, str A_71.text]) rfl rfl) <| jL (i := 10) ?_
            refine jO rfl rfl (jh (z := .agg #[iv 0, iv 0, str []]) (cs := [iv 0, iv 0, str []]) kg rfl) ?_
            rintro _ _ ⟨b_74, rfl, rfl⟩
            refine ⟨(by simp), ?_⟩
            refine jL (i := 11) ?_
            refine jo rfl (jW 4 x_69 m_70 rfl rfl rfl rfl) ?_
            rintro _ _ rfl
            refine jL (i := 12) ?_
            refine jp rfl (jc 0 (vs := [iv A_71.code, iv A_71.n, str A_71.text]) (cs' := [iv A_71.code, iv A_71.n, str A_71.text]) rfl rfl rfl rfl kV rfl rfl (lb rfl) rfl) ?_
            rintro _ _ rfl
            refine jr [0, 3, 0, 0, 0, 0, 0, 0, 0, 0] (A := [bk b_74 37 [iv A_71.code, iv A_71.n, str A_71.text], mb b_59 x_69 m_70, rC x_69.a0 x_69.c0 m_70.s, rS x_69.a1 x_69.c1 m_70.r, rS x_69.a2 x_69.c2 m_70.w, rC x_33.a0 x_33.c0 m.s, rS x_33.a1 x_33.c1 m.r, rS x_33.a2 x_33.c2 m.w, bk b_2 29 [iv aC.kind, str aC.name, str aC.to_, iv aC.a, iv aC.b, str aC.text], bk b_1 27 (mc x m)]) rfl ?_
            exact jy ⟨x_33, x_69, m_70, A_71, b_59, b_74, e_67, k_68, f_72, rfl, rfl, rfl, rfl, rfl, rfl, rfl⟩
          refine jO rfl rfl (jh (z := .agg #[iv 0, iv 0, str []]) (cs := [iv 0, iv 0, str []]) kg rfl) ?_
          rintro _ _ ⟨b_75, rfl, rfl⟩
          refine ⟨(by simp), ?_⟩
          refine jL (i := 5) ?_
          refine jO rfl rfl (jI [] Tryz.call6 rfl (Q_do x_33 m k_32 (by omega) (by omega) aProc aC (by omega) hcK) rfl (fun w hw => ⟨hw.see (i := 2) rfl, hw.see (i := 3) rfl, hw.see (i := 4) rfl⟩)) ?_
          rintro _ _ ⟨_, ⟨x_84, m_85, A_86, e_82, k_83, f_87, rfl, rfl⟩, rfl⟩
          refine ⟨(by simp), ?_⟩
          refine jK 6 rfl (jC (v := .tuple #[mv x_84 m_85, .agg #[iv A_86.code, iv A_86.n, str A_86.text]]) rfl) <| jK 7 rfl (jS (v := mv x_84 m_85) rfl rfl) <| jK 8 rfl (jS (v := .agg #[iv A_86.code, iv A_86.n, str A_86.text]) rfl rfl) <| jL (i := 11) ?_
          refine jo rfl (jW 4 x_84 m_85 rfl rfl rfl rfl) ?_
          rintro _ _ rfl
          refine jL (i := 12) ?_
          refine jp rfl (jc 3 (vs := [iv A_86.code, iv A_86.n, str A_86.text]) (cs' := [iv A_86.code, iv A_86.n, str A_86.text]) rfl rfl rfl rfl kV rfl rfl (lb rfl) rfl) ?_
          rintro _ _ rfl
          refine jr [3, 3, 0, 0, 0, 0, 0, 0, 0, 0] (A := [bk b_75 37 [iv A_86.code, iv A_86.n, str A_86.text], mb b_59 x_84 m_85, rC x_84.a0 x_84.c0 m_85.s, rS x_84.a1 x_84.c1 m_85.r, rS x_84.a2 x_84.c2 m_85.w, rC x_33.a0 x_33.c0 m.s, rS x_33.a1 x_33.c1 m.r, rS x_33.a2 x_33.c2 m.w, bk b_2 29 [iv aC.kind, str aC.name, str aC.to_, iv aC.a, iv aC.b, str aC.text], bk b_1 27 (mc x m)]) rfl ?_
          exact jy ⟨x_33, x_84, m_85, A_86, b_59, b_75, e_82, k_83, f_87, rfl, rfl, rfl, rfl, rfl, rfl, rfl⟩
        refine jO rfl rfl (jh (z := .agg #[iv 0, iv 0, str []]) (cs := [iv 0, iv 0, str []]) kg rfl) ?_
        rintro _ _ ⟨b_88, rfl, rfl⟩
        refine ⟨(by simp), ?_⟩
        refine kM (i := 5) (j := 9) (by kernel_rfl) ?_ ?_
        · refine jO rfl rfl (jI [] Tryz.call6 rfl (Q_do x_33 m k_32 (by omega) (by omega) aProc aC (by omega) hcK) rfl (fun w hw => ⟨hw.see (i := 1) rfl, hw.see (i := 2) rfl, hw.see (i := 3) rfl⟩)) ?_
          rintro _ _ ⟨_, ⟨x_98, m_99, A_100, e_96, k_97, f_101, rfl, rfl⟩, rfl⟩
          refine ⟨(by simp), ?_⟩
          refine jK 6 rfl (jC (v := .tuple #[mv x_98 m_99, .agg #[iv A_100.code, iv A_100.n, str A_100.text]]) rfl) <| jK 7 rfl (jS (v := mv x_98 m_99) rfl rfl) <| jK 8 rfl (jS (v := .agg #[iv A_100.code, iv A_100.n, str A_100.text]) rfl rfl) <| jL (i := 9) ?_
          refine jO rfl rfl (jh (z := zM) (cs := zC) kd rfl) ?_
          rintro _ _ ⟨b_103, rfl, rfl⟩
          refine ⟨(by simp), ?_⟩
          refine jL (i := 11) ?_
          refine jo rfl (jW 0 x_98 m_99 rfl rfl rfl rfl) ?_
          rintro _ _ rfl
          refine jL (i := 12) ?_
          refine jp rfl (jc 4 (vs := [iv A_100.code, iv A_100.n, str A_100.text]) (cs' := [iv A_100.code, iv A_100.n, str A_100.text]) rfl rfl rfl rfl kV rfl rfl (lb rfl) rfl) ?_
          rintro _ _ rfl
          refine jr [4, 0, 0, 0, 0, 0, 0, 0, 0, 0] (A := [bk b_88 37 [iv A_100.code, iv A_100.n, str A_100.text], mb b_103 x_98 m_99, rC x_98.a0 x_98.c0 m_99.s, rS x_98.a1 x_98.c1 m_99.r, rS x_98.a2 x_98.c2 m_99.w, rC x_33.a0 x_33.c0 m.s, rS x_33.a1 x_33.c1 m.r, rS x_33.a2 x_33.c2 m.w, bk b_2 29 [iv aC.kind, str aC.name, str aC.to_, iv aC.a, iv aC.b, str aC.text], bk b_1 27 (mc x m)]) rfl ?_
          exact jy ⟨x_33, x_98, m_99, A_100, b_103, b_88, e_96, k_97, f_101, rfl, rfl, rfl, rfl, rfl, rfl, rfl⟩
        refine jO rfl rfl (jh (z := zM) (cs := zC) kd rfl) ?_
        rintro _ _ ⟨b_104, rfl, rfl⟩
        refine ⟨(by simp), ?_⟩
        refine jL (i := 5) ?_
        refine jO rfl rfl (jI [] Tryz.call6 rfl (Q_do x_33 m k_32 (by omega) (by omega) aProc aC (by omega) hcK) rfl (fun w hw => ⟨hw.see (i := 2) rfl, hw.see (i := 3) rfl, hw.see (i := 4) rfl⟩)) ?_
        rintro _ _ ⟨_, ⟨x_113, m_114, A_115, e_111, k_112, f_116, rfl, rfl⟩, rfl⟩
        refine ⟨(by simp), ?_⟩
        refine jK 6 rfl (jC (v := .tuple #[mv x_113 m_114, .agg #[iv A_115.code, iv A_115.n, str A_115.text]]) rfl) <| jK 7 rfl (jS (v := mv x_113 m_114) rfl rfl) <| jK 8 rfl (jS (v := .agg #[iv A_115.code, iv A_115.n, str A_115.text]) rfl rfl) <| jL (i := 11) ?_
        refine jo rfl (jW 3 x_113 m_114 rfl rfl rfl rfl) ?_
        rintro _ _ rfl
        refine jL (i := 12) ?_
        refine jp rfl (jc 4 (vs := [iv A_115.code, iv A_115.n, str A_115.text]) (cs' := [iv A_115.code, iv A_115.n, str A_115.text]) rfl rfl rfl rfl kV rfl rfl (lb rfl) rfl) ?_
        rintro _ _ rfl
        refine jr [4, 3, 0, 0, 0, 0, 0, 0, 0, 0] (A := [bk b_88 37 [iv A_115.code, iv A_115.n, str A_115.text], mb b_104 x_113 m_114, rC x_113.a0 x_113.c0 m_114.s, rS x_113.a1 x_113.c1 m_114.r, rS x_113.a2 x_113.c2 m_114.w, rC x_33.a0 x_33.c0 m.s, rS x_33.a1 x_33.c1 m.r, rS x_33.a2 x_33.c2 m.w, bk b_2 29 [iv aC.kind, str aC.name, str aC.to_, iv aC.a, iv aC.b, str aC.text], bk b_1 27 (mc x m)]) rfl ?_
        exact jy ⟨x_33, x_113, m_114, A_115, b_104, b_88, e_111, k_112, f_116, rfl, rfl, rfl, rfl, rfl, rfl, rfl⟩
      · refine jO rfl rfl (jh (z := zM) (cs := zC) kd rfl) ?_
        rintro _ _ ⟨b_117, rfl, rfl⟩
        refine ⟨(by simp), ?_⟩
        refine kM (i := 4) (j := 10) (by kernel_rfl) ?_ ?_
        · refine jO rfl rfl (jI [] Tryz.call8 rfl (N_toCall aC) rfl (fun _ _ => trivial)) ?_
          rintro _ _ ⟨_, ⟨rfl, rfl⟩, rfl⟩
          refine ⟨(by simp), ?_⟩
          refine kM (i := 5) (j := 10) (by kernel_rfl) ?_ ?_
          · refine jO rfl rfl (jI [] Tryz.call6 rfl (Q_do x_33 m k_32 (by omega) (by omega) aProc aC (by omega) hcK) rfl (fun w hw => ⟨hw.see (i := 1) rfl, hw.see (i := 2) rfl, hw.see (i := 3) rfl⟩)) ?_
            rintro _ _ ⟨_, ⟨x_128, m_129, A_130, e_126, k_127, f_131, rfl, rfl⟩, rfl⟩
            refine ⟨(by simp), ?_⟩
            refine jK 6 rfl (jC (v := .tuple #[mv x_128 m_129, .agg #[iv A_130.code, iv A_130.n, str A_130.text]]) rfl) <| jK 7 rfl (jS (v := mv x_128 m_129) rfl rfl) <| jK 8 rfl (jS (v := .agg #[iv A_130.code, iv A_130.n, str A_130.text]) rfl rfl) <| jL (i := 10) ?_
            refine jO rfl rfl (jh (z := .agg #[iv 0, iv 0, str []]) (cs := [iv 0, iv 0, str []]) kg rfl) ?_
            rintro _ _ ⟨b_133, rfl, rfl⟩
            refine ⟨(by simp), ?_⟩
            refine jL (i := 11) ?_
            refine jo rfl (jW 4 x_128 m_129 rfl rfl rfl rfl) ?_
            rintro _ _ rfl
            refine jL (i := 12) ?_
            refine jp rfl (jc 0 (vs := [iv A_130.code, iv A_130.n, str A_130.text]) (cs' := [iv A_130.code, iv A_130.n, str A_130.text]) rfl rfl rfl rfl kV rfl rfl (lb rfl) rfl) ?_
            rintro _ _ rfl
            refine jr [0, 3, 0, 0, 0, 0, 0, 0, 0, 0] (A := [bk b_133 37 [iv A_130.code, iv A_130.n, str A_130.text], mb b_117 x_128 m_129, rC x_128.a0 x_128.c0 m_129.s, rS x_128.a1 x_128.c1 m_129.r, rS x_128.a2 x_128.c2 m_129.w, rC x_33.a0 x_33.c0 m.s, rS x_33.a1 x_33.c1 m.r, rS x_33.a2 x_33.c2 m.w, bk b_2 29 [iv aC.kind, str aC.name, str aC.to_, iv aC.a, iv aC.b, str aC.text], bk b_1 27 (mc x m)]) rfl ?_
            exact jy ⟨x_33, x_128, m_129, A_130, b_117, b_133, e_126, k_127, f_131, rfl, rfl, rfl, rfl, rfl, rfl, rfl⟩
          refine jO rfl rfl (jh (z := .agg #[iv 0, iv 0, str []]) (cs := [iv 0, iv 0, str []]) kg rfl) ?_
          rintro _ _ ⟨b_134, rfl, rfl⟩
          refine ⟨(by simp), ?_⟩
          refine jL (i := 5) ?_
          refine jO rfl rfl (jI [] Tryz.call6 rfl (Q_do x_33 m k_32 (by omega) (by omega) aProc aC (by omega) hcK) rfl (fun w hw => ⟨hw.see (i := 2) rfl, hw.see (i := 3) rfl, hw.see (i := 4) rfl⟩)) ?_
          rintro _ _ ⟨_, ⟨x_143, m_144, A_145, e_141, k_142, f_146, rfl, rfl⟩, rfl⟩
          refine ⟨(by simp), ?_⟩
          refine jK 6 rfl (jC (v := .tuple #[mv x_143 m_144, .agg #[iv A_145.code, iv A_145.n, str A_145.text]]) rfl) <| jK 7 rfl (jS (v := mv x_143 m_144) rfl rfl) <| jK 8 rfl (jS (v := .agg #[iv A_145.code, iv A_145.n, str A_145.text]) rfl rfl) <| jL (i := 11) ?_
          refine jo rfl (jW 4 x_143 m_144 rfl rfl rfl rfl) ?_
          rintro _ _ rfl
          refine jL (i := 12) ?_
          refine jp rfl (jc 3 (vs := [iv A_145.code, iv A_145.n, str A_145.text]) (cs' := [iv A_145.code, iv A_145.n, str A_145.text]) rfl rfl rfl rfl kV rfl rfl (lb rfl) rfl) ?_
          rintro _ _ rfl
          refine jr [3, 3, 0, 0, 0, 0, 0, 0, 0, 0] (A := [bk b_134 37 [iv A_145.code, iv A_145.n, str A_145.text], mb b_117 x_143 m_144, rC x_143.a0 x_143.c0 m_144.s, rS x_143.a1 x_143.c1 m_144.r, rS x_143.a2 x_143.c2 m_144.w, rC x_33.a0 x_33.c0 m.s, rS x_33.a1 x_33.c1 m.r, rS x_33.a2 x_33.c2 m.w, bk b_2 29 [iv aC.kind, str aC.name, str aC.to_, iv aC.a, iv aC.b, str aC.text], bk b_1 27 (mc x m)]) rfl ?_
          exact jy ⟨x_33, x_143, m_144, A_145, b_117, b_134, e_141, k_142, f_146, rfl, rfl, rfl, rfl, rfl, rfl, rfl⟩
        refine jO rfl rfl (jh (z := .agg #[iv 0, iv 0, str []]) (cs := [iv 0, iv 0, str []]) kg rfl) ?_
        rintro _ _ ⟨b_147, rfl, rfl⟩
        refine ⟨(by simp), ?_⟩
        refine jL (i := 4) ?_
        refine jO rfl rfl (jI [] Tryz.call8 rfl (N_toCall aC) rfl (fun _ _ => trivial)) ?_
        rintro _ _ ⟨_, ⟨rfl, rfl⟩, rfl⟩
        refine ⟨(by simp), ?_⟩
        refine jL (i := 5) ?_
        refine jO rfl rfl (jI [] Tryz.call6 rfl (Q_do x_33 m k_32 (by omega) (by omega) aProc aC (by omega) hcK) rfl (fun w hw => ⟨hw.see (i := 2) rfl, hw.see (i := 3) rfl, hw.see (i := 4) rfl⟩)) ?_
        rintro _ _ ⟨_, ⟨x_156, m_157, A_158, e_154, k_155, f_159, rfl, rfl⟩, rfl⟩
        refine ⟨(by simp), ?_⟩
        refine jK 6 rfl (jC (v := .tuple #[mv x_156 m_157, .agg #[iv A_158.code, iv A_158.n, str A_158.text]]) rfl) <| jK 7 rfl (jS (v := mv x_156 m_157) rfl rfl) <| jK 8 rfl (jS (v := .agg #[iv A_158.code, iv A_158.n, str A_158.text]) rfl rfl) <| jL (i := 11) ?_
        refine jo rfl (jW 4 x_156 m_157 rfl rfl rfl rfl) ?_
        rintro _ _ rfl
        refine jL (i := 12) ?_
        refine jp rfl (jc 3 (vs := [iv A_158.code, iv A_158.n, str A_158.text]) (cs' := [iv A_158.code, iv A_158.n, str A_158.text]) rfl rfl rfl rfl kV rfl rfl (lb rfl) rfl) ?_
        rintro _ _ rfl
        refine jr [3, 3, 0, 0, 0, 0, 0, 0, 0, 0] (A := [bk b_147 37 [iv A_158.code, iv A_158.n, str A_158.text], mb b_117 x_156 m_157, rC x_156.a0 x_156.c0 m_157.s, rS x_156.a1 x_156.c1 m_157.r, rS x_156.a2 x_156.c2 m_157.w, rC x_33.a0 x_33.c0 m.s, rS x_33.a1 x_33.c1 m.r, rS x_33.a2 x_33.c2 m.w, bk b_2 29 [iv aC.kind, str aC.name, str aC.to_, iv aC.a, iv aC.b, str aC.text], bk b_1 27 (mc x m)]) rfl ?_
        exact jy ⟨x_33, x_156, m_157, A_158, b_117, b_147, e_154, k_155, f_159, rfl, rfl, rfl, rfl, rfl, rfl, rfl⟩
      refine jO rfl rfl (jh (z := .agg #[iv 0, iv 0, str []]) (cs := [iv 0, iv 0, str []]) kg rfl) ?_
      rintro _ _ ⟨b_160, rfl, rfl⟩
      refine ⟨(by simp), ?_⟩
      refine kM (i := 4) (j := 9) (by kernel_rfl) ?_ ?_
      · refine jO rfl rfl (jI [] Tryz.call8 rfl (N_toCall aC) rfl (fun _ _ => trivial)) ?_
        rintro _ _ ⟨_, ⟨rfl, rfl⟩, rfl⟩
        refine ⟨(by simp), ?_⟩
        refine kM (i := 5) (j := 9) (by kernel_rfl) ?_ ?_
        · refine jO rfl rfl (jI [] Tryz.call6 rfl (Q_do x_33 m k_32 (by omega) (by omega) aProc aC (by omega) hcK) rfl (fun w hw => ⟨hw.see (i := 1) rfl, hw.see (i := 2) rfl, hw.see (i := 3) rfl⟩)) ?_
          rintro _ _ ⟨_, ⟨x_171, m_172, A_173, e_169, k_170, f_174, rfl, rfl⟩, rfl⟩
          refine ⟨(by simp), ?_⟩
          refine jK 6 rfl (jC (v := .tuple #[mv x_171 m_172, .agg #[iv A_173.code, iv A_173.n, str A_173.text]]) rfl) <| jK 7 rfl (jS (v := mv x_171 m_172) rfl rfl) <| jK 8 rfl (jS (v := .agg #[iv A_173.code, iv A_173.n, str A_173.text]) rfl rfl) <| jL (i := 9) ?_
          refine jO rfl rfl (jh (z := zM) (cs := zC) kd rfl) ?_
          rintro _ _ ⟨b_176, rfl, rfl⟩
          refine ⟨(by simp), ?_⟩
          refine jL (i := 11) ?_
          refine jo rfl (jW 0 x_171 m_172 rfl rfl rfl rfl) ?_
          rintro _ _ rfl
          refine jL (i := 12) ?_
          refine jp rfl (jc 4 (vs := [iv A_173.code, iv A_173.n, str A_173.text]) (cs' := [iv A_173.code, iv A_173.n, str A_173.text]) rfl rfl rfl rfl kV rfl rfl (lb rfl) rfl) ?_
          rintro _ _ rfl
          refine jr [4, 0, 0, 0, 0, 0, 0, 0, 0, 0] (A := [bk b_160 37 [iv A_173.code, iv A_173.n, str A_173.text], mb b_176 x_171 m_172, rC x_171.a0 x_171.c0 m_172.s, rS x_171.a1 x_171.c1 m_172.r, rS x_171.a2 x_171.c2 m_172.w, rC x_33.a0 x_33.c0 m.s, rS x_33.a1 x_33.c1 m.r, rS x_33.a2 x_33.c2 m.w, bk b_2 29 [iv aC.kind, str aC.name, str aC.to_, iv aC.a, iv aC.b, str aC.text], bk b_1 27 (mc x m)]) rfl ?_
          exact jy ⟨x_33, x_171, m_172, A_173, b_176, b_160, e_169, k_170, f_174, rfl, rfl, rfl, rfl, rfl, rfl, rfl⟩
        refine jO rfl rfl (jh (z := zM) (cs := zC) kd rfl) ?_
        rintro _ _ ⟨b_177, rfl, rfl⟩
        refine ⟨(by simp), ?_⟩
        refine jL (i := 5) ?_
        refine jO rfl rfl (jI [] Tryz.call6 rfl (Q_do x_33 m k_32 (by omega) (by omega) aProc aC (by omega) hcK) rfl (fun w hw => ⟨hw.see (i := 2) rfl, hw.see (i := 3) rfl, hw.see (i := 4) rfl⟩)) ?_
        rintro _ _ ⟨_, ⟨x_186, m_187, A_188, e_184, k_185, f_189, rfl, rfl⟩, rfl⟩
        refine ⟨(by simp), ?_⟩
        refine jK 6 rfl (jC (v := .tuple #[mv x_186 m_187, .agg #[iv A_188.code, iv A_188.n, str A_188.text]]) rfl) <| jK 7 rfl (jS (v := mv x_186 m_187) rfl rfl) <| jK 8 rfl (jS (v := .agg #[iv A_188.code, iv A_188.n, str A_188.text]) rfl rfl) <| jL (i := 11) ?_
        refine jo rfl (jW 3 x_186 m_187 rfl rfl rfl rfl) ?_
        rintro _ _ rfl
        refine jL (i := 12) ?_
        refine jp rfl (jc 4 (vs := [iv A_188.code, iv A_188.n, str A_188.text]) (cs' := [iv A_188.code, iv A_188.n, str A_188.text]) rfl rfl rfl rfl kV rfl rfl (lb rfl) rfl) ?_
        rintro _ _ rfl
        refine jr [4, 3, 0, 0, 0, 0, 0, 0, 0, 0] (A := [bk b_160 37 [iv A_188.code, iv A_188.n, str A_188.text], mb b_177 x_186 m_187, rC x_186.a0 x_186.c0 m_187.s, rS x_186.a1 x_186.c1 m_187.r, rS x_186.a2 x_186.c2 m_187.w, rC x_33.a0 x_33.c0 m.s, rS x_33.a1 x_33.c1 m.r, rS x_33.a2 x_33.c2 m.w, bk b_2 29 [iv aC.kind, str aC.name, str aC.to_, iv aC.a, iv aC.b, str aC.text], bk b_1 27 (mc x m)]) rfl ?_
        exact jy ⟨x_33, x_186, m_187, A_188, b_177, b_160, e_184, k_185, f_189, rfl, rfl, rfl, rfl, rfl, rfl, rfl⟩
      refine jO rfl rfl (jh (z := zM) (cs := zC) kd rfl) ?_
      rintro _ _ ⟨b_190, rfl, rfl⟩
      refine ⟨(by simp), ?_⟩
      refine jL (i := 4) ?_
      refine jO rfl rfl (jI [] Tryz.call8 rfl (N_toCall aC) rfl (fun _ _ => trivial)) ?_
      rintro _ _ ⟨_, ⟨rfl, rfl⟩, rfl⟩
      refine ⟨(by simp), ?_⟩
      refine jL (i := 5) ?_
      refine jO rfl rfl (jI [] Tryz.call6 rfl (Q_do x_33 m k_32 (by omega) (by omega) aProc aC (by omega) hcK) rfl (fun w hw => ⟨hw.see (i := 2) rfl, hw.see (i := 3) rfl, hw.see (i := 4) rfl⟩)) ?_
      rintro _ _ ⟨_, ⟨x_199, m_200, A_201, e_197, k_198, f_202, rfl, rfl⟩, rfl⟩
      refine ⟨(by simp), ?_⟩
      refine jK 6 rfl (jC (v := .tuple #[mv x_199 m_200, .agg #[iv A_201.code, iv A_201.n, str A_201.text]]) rfl) <| jK 7 rfl (jS (v := mv x_199 m_200) rfl rfl) <| jK 8 rfl (jS (v := .agg #[iv A_201.code, iv A_201.n, str A_201.text]) rfl rfl) <| jL (i := 11) ?_
      refine jo rfl (jW 3 x_199 m_200 rfl rfl rfl rfl) ?_
      rintro _ _ rfl
      refine jL (i := 12) ?_
      refine jp rfl (jc 4 (vs := [iv A_201.code, iv A_201.n, str A_201.text]) (cs' := [iv A_201.code, iv A_201.n, str A_201.text]) rfl rfl rfl rfl kV rfl rfl (lb rfl) rfl) ?_
      rintro _ _ rfl
      refine jr [4, 3, 0, 0, 0, 0, 0, 0, 0, 0] (A := [bk b_160 37 [iv A_201.code, iv A_201.n, str A_201.text], mb b_190 x_199 m_200, rC x_199.a0 x_199.c0 m_200.s, rS x_199.a1 x_199.c1 m_200.r, rS x_199.a2 x_199.c2 m_200.w, rC x_33.a0 x_33.c0 m.s, rS x_33.a1 x_33.c1 m.r, rS x_33.a2 x_33.c2 m.w, bk b_2 29 [iv aC.kind, str aC.name, str aC.to_, iv aC.a, iv aC.b, str aC.text], bk b_1 27 (mc x m)]) rfl ?_
      exact jy ⟨x_33, x_199, m_200, A_201, b_190, b_160, e_197, k_198, f_202, rfl, rfl, rfl, rfl, rfl, rfl, rfl⟩
    · refine jO rfl rfl (jh (z := zM) (cs := zC) kd rfl) ?_
      rintro _ _ ⟨b_203, rfl, rfl⟩
      refine ⟨(by simp), ?_⟩
      refine kM (i := 1) (j := 10) (by kernel_rfl) ?_ ?_
      · refine jO rfl rfl (jI [] Tryz.call7 rfl (N_toMach x m hok (by omega) (by omega)) rfl (fun w hw => ⟨hw.seeOut_ hs_x_a0 nM, hw.seeOut_ hs_x_a1 nM, hw.seeOut_ hs_x_a2 nM⟩)) ?_
        rintro _ _ ⟨_, ⟨x_211, m_212, rfl, k_210, rfl, rfl⟩, rfl⟩
        refine ⟨(by simp), ?_⟩
        refine kM (i := 4) (j := 10) (by kernel_rfl) ?_ ?_
        · refine jO rfl rfl (jI [] Tryz.call8 rfl (N_toCall aC) rfl (fun _ _ => trivial)) ?_
          rintro _ _ ⟨_, ⟨rfl, rfl⟩, rfl⟩
          refine ⟨(by simp), ?_⟩
          refine kM (i := 5) (j := 10) (by kernel_rfl) ?_ ?_
          · refine jO rfl rfl (jI [] Tryz.call6 rfl (Q_do x_211 m k_210 (by omega) (by omega) aProc aC (by omega) hcK) rfl (fun w hw => ⟨hw.see (i := 0) rfl, hw.see (i := 1) rfl, hw.see (i := 2) rfl⟩)) ?_
            rintro _ _ ⟨_, ⟨x_223, m_224, A_225, e_221, k_222, f_226, rfl, rfl⟩, rfl⟩
            refine ⟨(by simp), ?_⟩
            refine jK 6 rfl (jC (v := .tuple #[mv x_223 m_224, .agg #[iv A_225.code, iv A_225.n, str A_225.text]]) rfl) <| jK 7 rfl (jS (v := mv x_223 m_224) rfl rfl) <| jK 8 rfl (jS (v := .agg #[iv A_225.code, iv A_225.n, str A_225.text]) rfl rfl) <| jL (i := 10) ?_
            refine jO rfl rfl (jh (z := .agg #[iv 0, iv 0, str []]) (cs := [iv 0, iv 0, str []]) kg rfl) ?_
            rintro _ _ ⟨b_228, rfl, rfl⟩
            refine ⟨(by simp), ?_⟩
            refine jL (i := 11) ?_
            refine jo rfl (jW 7 x_223 m_224 rfl rfl rfl rfl) ?_
            rintro _ _ rfl
            refine jL (i := 12) ?_
            refine jp rfl (jc 0 (vs := [iv A_225.code, iv A_225.n, str A_225.text]) (cs' := [iv A_225.code, iv A_225.n, str A_225.text]) rfl rfl rfl rfl kV rfl rfl (lb rfl) rfl) ?_
            rintro _ _ rfl
            refine jr [0, 6, 0, 0, 0, 0, 0, 0, 0, 0] (A := [bk b_228 37 [iv A_225.code, iv A_225.n, str A_225.text], mb b_203 x_223 m_224, rC x_223.a0 x_223.c0 m_224.s, rS x_223.a1 x_223.c1 m_224.r, rS x_223.a2 x_223.c2 m_224.w, rC x_211.a0 x_211.c0 m.s, rS x_211.a1 x_211.c1 m.r, rS x_211.a2 x_211.c2 m.w, bk b_2 29 [iv aC.kind, str aC.name, str aC.to_, iv aC.a, iv aC.b, str aC.text], bk b_1 27 (mc x m)]) rfl ?_
            exact jy ⟨x_211, x_223, m_224, A_225, b_203, b_228, e_221, k_222, f_226, rfl, rfl, rfl, rfl, rfl, rfl, rfl⟩
          refine jO rfl rfl (jh (z := .agg #[iv 0, iv 0, str []]) (cs := [iv 0, iv 0, str []]) kg rfl) ?_
          rintro _ _ ⟨b_229, rfl, rfl⟩
          refine ⟨(by simp), ?_⟩
          refine jL (i := 5) ?_
          refine jO rfl rfl (jI [] Tryz.call6 rfl (Q_do x_211 m k_210 (by omega) (by omega) aProc aC (by omega) hcK) rfl (fun w hw => ⟨hw.see (i := 1) rfl, hw.see (i := 2) rfl, hw.see (i := 3) rfl⟩)) ?_
          rintro _ _ ⟨_, ⟨x_238, m_239, A_240, e_236, k_237, f_241, rfl, rfl⟩, rfl⟩
          refine ⟨(by simp), ?_⟩
          refine jK 6 rfl (jC (v := .tuple #[mv x_238 m_239, .agg #[iv A_240.code, iv A_240.n, str A_240.text]]) rfl) <| jK 7 rfl (jS (v := mv x_238 m_239) rfl rfl) <| jK 8 rfl (jS (v := .agg #[iv A_240.code, iv A_240.n, str A_240.text]) rfl rfl) <| jL (i := 11) ?_
          refine jo rfl (jW 7 x_238 m_239 rfl rfl rfl rfl) ?_
          rintro _ _ rfl
          refine jL (i := 12) ?_
          refine jp rfl (jc 3 (vs := [iv A_240.code, iv A_240.n, str A_240.text]) (cs' := [iv A_240.code, iv A_240.n, str A_240.text]) rfl rfl rfl rfl kV rfl rfl (lb rfl) rfl) ?_
          rintro _ _ rfl
          refine jr [3, 6, 0, 0, 0, 0, 0, 0, 0, 0] (A := [bk b_229 37 [iv A_240.code, iv A_240.n, str A_240.text], mb b_203 x_238 m_239, rC x_238.a0 x_238.c0 m_239.s, rS x_238.a1 x_238.c1 m_239.r, rS x_238.a2 x_238.c2 m_239.w, rC x_211.a0 x_211.c0 m.s, rS x_211.a1 x_211.c1 m.r, rS x_211.a2 x_211.c2 m.w, bk b_2 29 [iv aC.kind, str aC.name, str aC.to_, iv aC.a, iv aC.b, str aC.text], bk b_1 27 (mc x m)]) rfl ?_
          exact jy ⟨x_211, x_238, m_239, A_240, b_203, b_229, e_236, k_237, f_241, rfl, rfl, rfl, rfl, rfl, rfl, rfl⟩
        refine jO rfl rfl (jh (z := .agg #[iv 0, iv 0, str []]) (cs := [iv 0, iv 0, str []]) kg rfl) ?_
        rintro _ _ ⟨b_242, rfl, rfl⟩
        refine ⟨(by simp), ?_⟩
        refine jL (i := 4) ?_
        refine jO rfl rfl (jI [] Tryz.call8 rfl (N_toCall aC) rfl (fun _ _ => trivial)) ?_
        rintro _ _ ⟨_, ⟨rfl, rfl⟩, rfl⟩
        refine ⟨(by simp), ?_⟩
        refine jL (i := 5) ?_
        refine jO rfl rfl (jI [] Tryz.call6 rfl (Q_do x_211 m k_210 (by omega) (by omega) aProc aC (by omega) hcK) rfl (fun w hw => ⟨hw.see (i := 1) rfl, hw.see (i := 2) rfl, hw.see (i := 3) rfl⟩)) ?_
        rintro _ _ ⟨_, ⟨x_251, m_252, A_253, e_249, k_250, f_254, rfl, rfl⟩, rfl⟩
        refine ⟨(by simp), ?_⟩
        refine jK 6 rfl (jC (v := .tuple #[mv x_251 m_252, .agg #[iv A_253.code, iv A_253.n, str A_253.text]]) rfl) <| jK 7 rfl (jS (v := mv x_251 m_252) rfl rfl) <| jK 8 rfl (jS (v := .agg #[iv A_253.code, iv A_253.n, str A_253.text]) rfl rfl) <| jL (i := 11) ?_
        refine jo rfl (jW 7 x_251 m_252 rfl rfl rfl rfl) ?_
        rintro _ _ rfl
        refine jL (i := 12) ?_
        refine jp rfl (jc 3 (vs := [iv A_253.code, iv A_253.n, str A_253.text]) (cs' := [iv A_253.code, iv A_253.n, str A_253.text]) rfl rfl rfl rfl kV rfl rfl (lb rfl) rfl) ?_
        rintro _ _ rfl
        refine jr [3, 6, 0, 0, 0, 0, 0, 0, 0, 0] (A := [bk b_242 37 [iv A_253.code, iv A_253.n, str A_253.text], mb b_203 x_251 m_252, rC x_251.a0 x_251.c0 m_252.s, rS x_251.a1 x_251.c1 m_252.r, rS x_251.a2 x_251.c2 m_252.w, rC x_211.a0 x_211.c0 m.s, rS x_211.a1 x_211.c1 m.r, rS x_211.a2 x_211.c2 m.w, bk b_2 29 [iv aC.kind, str aC.name, str aC.to_, iv aC.a, iv aC.b, str aC.text], bk b_1 27 (mc x m)]) rfl ?_
        exact jy ⟨x_211, x_251, m_252, A_253, b_203, b_242, e_249, k_250, f_254, rfl, rfl, rfl, rfl, rfl, rfl, rfl⟩
      refine jO rfl rfl (jh (z := .agg #[iv 0, iv 0, str []]) (cs := [iv 0, iv 0, str []]) kg rfl) ?_
      rintro _ _ ⟨b_255, rfl, rfl⟩
      refine ⟨(by simp), ?_⟩
      refine jL (i := 1) ?_
      refine jO rfl rfl (jI [] Tryz.call7 rfl (N_toMach x m hok (by omega) (by omega)) rfl (fun w hw => ⟨hw.seeOut_ hs_x_a0 nM, hw.seeOut_ hs_x_a1 nM, hw.seeOut_ hs_x_a2 nM⟩)) ?_
      rintro _ _ ⟨_, ⟨x_262, m_263, rfl, k_261, rfl, rfl⟩, rfl⟩
      refine ⟨(by simp), ?_⟩
      refine jL (i := 4) ?_
      refine jO rfl rfl (jI [] Tryz.call8 rfl (N_toCall aC) rfl (fun _ _ => trivial)) ?_
      rintro _ _ ⟨_, ⟨rfl, rfl⟩, rfl⟩
      refine ⟨(by simp), ?_⟩
      refine jL (i := 5) ?_
      refine jO rfl rfl (jI [] Tryz.call6 rfl (Q_do x_262 m k_261 (by omega) (by omega) aProc aC (by omega) hcK) rfl (fun w hw => ⟨hw.see (i := 0) rfl, hw.see (i := 1) rfl, hw.see (i := 2) rfl⟩)) ?_
      rintro _ _ ⟨_, ⟨x_272, m_273, A_274, e_270, k_271, f_275, rfl, rfl⟩, rfl⟩
      refine ⟨(by simp), ?_⟩
      refine jK 6 rfl (jC (v := .tuple #[mv x_272 m_273, .agg #[iv A_274.code, iv A_274.n, str A_274.text]]) rfl) <| jK 7 rfl (jS (v := mv x_272 m_273) rfl rfl) <| jK 8 rfl (jS (v := .agg #[iv A_274.code, iv A_274.n, str A_274.text]) rfl rfl) <| jL (i := 11) ?_
      refine jo rfl (jW 7 x_272 m_273 rfl rfl rfl rfl) ?_
      rintro _ _ rfl
      refine jL (i := 12) ?_
      refine jp rfl (jc 6 (vs := [iv A_274.code, iv A_274.n, str A_274.text]) (cs' := [iv A_274.code, iv A_274.n, str A_274.text]) rfl rfl rfl rfl kV rfl rfl (lb rfl) rfl) ?_
      rintro _ _ rfl
      refine jr [6, 6, 0, 0, 0, 0, 0, 0, 0, 0] (A := [bk b_255 37 [iv A_274.code, iv A_274.n, str A_274.text], mb b_203 x_272 m_273, rC x_272.a0 x_272.c0 m_273.s, rS x_272.a1 x_272.c1 m_273.r, rS x_272.a2 x_272.c2 m_273.w, rC x_262.a0 x_262.c0 m.s, rS x_262.a1 x_262.c1 m.r, rS x_262.a2 x_262.c2 m.w, bk b_2 29 [iv aC.kind, str aC.name, str aC.to_, iv aC.a, iv aC.b, str aC.text], bk b_1 27 (mc x m)]) rfl ?_
      exact jy ⟨x_262, x_272, m_273, A_274, b_203, b_255, e_270, k_271, f_275, rfl, rfl, rfl, rfl, rfl, rfl, rfl⟩
    refine jO rfl rfl (jh (z := .agg #[iv 0, iv 0, str []]) (cs := [iv 0, iv 0, str []]) kg rfl) ?_
    rintro _ _ ⟨b_276, rfl, rfl⟩
    refine ⟨(by simp), ?_⟩
    refine kM (i := 1) (j := 9) (by kernel_rfl) ?_ ?_
    · refine jO rfl rfl (jI [] Tryz.call7 rfl (N_toMach x m hok (by omega) (by omega)) rfl (fun w hw => ⟨hw.seeOut_ hs_x_a0 nM, hw.seeOut_ hs_x_a1 nM, hw.seeOut_ hs_x_a2 nM⟩)) ?_
      rintro _ _ ⟨_, ⟨x_284, m_285, rfl, k_283, rfl, rfl⟩, rfl⟩
      refine ⟨(by simp), ?_⟩
      refine kM (i := 4) (j := 9) (by kernel_rfl) ?_ ?_
      · refine jO rfl rfl (jI [] Tryz.call8 rfl (N_toCall aC) rfl (fun _ _ => trivial)) ?_
        rintro _ _ ⟨_, ⟨rfl, rfl⟩, rfl⟩
        refine ⟨(by simp), ?_⟩
        refine kM (i := 5) (j := 9) (by kernel_rfl) ?_ ?_
        · refine jO rfl rfl (jI [] Tryz.call6 rfl (Q_do x_284 m k_283 (by omega) (by omega) aProc aC (by omega) hcK) rfl (fun w hw => ⟨hw.see (i := 0) rfl, hw.see (i := 1) rfl, hw.see (i := 2) rfl⟩)) ?_
          rintro _ _ ⟨_, ⟨x_296, m_297, A_298, e_294, k_295, f_299, rfl, rfl⟩, rfl⟩
          refine ⟨(by simp), ?_⟩
          refine jK 6 rfl (jC (v := .tuple #[mv x_296 m_297, .agg #[iv A_298.code, iv A_298.n, str A_298.text]]) rfl) <| jK 7 rfl (jS (v := mv x_296 m_297) rfl rfl) <| jK 8 rfl (jS (v := .agg #[iv A_298.code, iv A_298.n, str A_298.text]) rfl rfl) <| jL (i := 9) ?_
          refine jO rfl rfl (jh (z := zM) (cs := zC) kd rfl) ?_
          rintro _ _ ⟨b_301, rfl, rfl⟩
          refine ⟨(by simp), ?_⟩
          refine jL (i := 11) ?_
          refine jo rfl (jW 0 x_296 m_297 rfl rfl rfl rfl) ?_
          rintro _ _ rfl
          refine jL (i := 12) ?_
          refine jp rfl (jc 7 (vs := [iv A_298.code, iv A_298.n, str A_298.text]) (cs' := [iv A_298.code, iv A_298.n, str A_298.text]) rfl rfl rfl rfl kV rfl rfl (lb rfl) rfl) ?_
          rintro _ _ rfl
          refine jr [7, 0, 0, 0, 0, 0, 0, 0, 0, 0] (A := [bk b_276 37 [iv A_298.code, iv A_298.n, str A_298.text], mb b_301 x_296 m_297, rC x_296.a0 x_296.c0 m_297.s, rS x_296.a1 x_296.c1 m_297.r, rS x_296.a2 x_296.c2 m_297.w, rC x_284.a0 x_284.c0 m.s, rS x_284.a1 x_284.c1 m.r, rS x_284.a2 x_284.c2 m.w, bk b_2 29 [iv aC.kind, str aC.name, str aC.to_, iv aC.a, iv aC.b, str aC.text], bk b_1 27 (mc x m)]) rfl ?_
          exact jy ⟨x_284, x_296, m_297, A_298, b_301, b_276, e_294, k_295, f_299, rfl, rfl, rfl, rfl, rfl, rfl, rfl⟩
        refine jO rfl rfl (jh (z := zM) (cs := zC) kd rfl) ?_
        rintro _ _ ⟨b_302, rfl, rfl⟩
        refine ⟨(by simp), ?_⟩
        refine jL (i := 5) ?_
        refine jO rfl rfl (jI [] Tryz.call6 rfl (Q_do x_284 m k_283 (by omega) (by omega) aProc aC (by omega) hcK) rfl (fun w hw => ⟨hw.see (i := 1) rfl, hw.see (i := 2) rfl, hw.see (i := 3) rfl⟩)) ?_
        rintro _ _ ⟨_, ⟨x_311, m_312, A_313, e_309, k_310, f_314, rfl, rfl⟩, rfl⟩
        refine ⟨(by simp), ?_⟩
        refine jK 6 rfl (jC (v := .tuple #[mv x_311 m_312, .agg #[iv A_313.code, iv A_313.n, str A_313.text]]) rfl) <| jK 7 rfl (jS (v := mv x_311 m_312) rfl rfl) <| jK 8 rfl (jS (v := .agg #[iv A_313.code, iv A_313.n, str A_313.text]) rfl rfl) <| jL (i := 11) ?_
        refine jo rfl (jW 3 x_311 m_312 rfl rfl rfl rfl) ?_
        rintro _ _ rfl
        refine jL (i := 12) ?_
        refine jp rfl (jc 7 (vs := [iv A_313.code, iv A_313.n, str A_313.text]) (cs' := [iv A_313.code, iv A_313.n, str A_313.text]) rfl rfl rfl rfl kV rfl rfl (lb rfl) rfl) ?_
        rintro _ _ rfl
        refine jr [7, 3, 0, 0, 0, 0, 0, 0, 0, 0] (A := [bk b_276 37 [iv A_313.code, iv A_313.n, str A_313.text], mb b_302 x_311 m_312, rC x_311.a0 x_311.c0 m_312.s, rS x_311.a1 x_311.c1 m_312.r, rS x_311.a2 x_311.c2 m_312.w, rC x_284.a0 x_284.c0 m.s, rS x_284.a1 x_284.c1 m.r, rS x_284.a2 x_284.c2 m.w, bk b_2 29 [iv aC.kind, str aC.name, str aC.to_, iv aC.a, iv aC.b, str aC.text], bk b_1 27 (mc x m)]) rfl ?_
        exact jy ⟨x_284, x_311, m_312, A_313, b_302, b_276, e_309, k_310, f_314, rfl, rfl, rfl, rfl, rfl, rfl, rfl⟩
      refine jO rfl rfl (jh (z := zM) (cs := zC) kd rfl) ?_
      rintro _ _ ⟨b_315, rfl, rfl⟩
      refine ⟨(by simp), ?_⟩
      refine jL (i := 4) ?_
      refine jO rfl rfl (jI [] Tryz.call8 rfl (N_toCall aC) rfl (fun _ _ => trivial)) ?_
      rintro _ _ ⟨_, ⟨rfl, rfl⟩, rfl⟩
      refine ⟨(by simp), ?_⟩
      refine jL (i := 5) ?_
      refine jO rfl rfl (jI [] Tryz.call6 rfl (Q_do x_284 m k_283 (by omega) (by omega) aProc aC (by omega) hcK) rfl (fun w hw => ⟨hw.see (i := 1) rfl, hw.see (i := 2) rfl, hw.see (i := 3) rfl⟩)) ?_
      rintro _ _ ⟨_, ⟨x_324, m_325, A_326, e_322, k_323, f_327, rfl, rfl⟩, rfl⟩
      refine ⟨(by simp), ?_⟩
      refine jK 6 rfl (jC (v := .tuple #[mv x_324 m_325, .agg #[iv A_326.code, iv A_326.n, str A_326.text]]) rfl) <| jK 7 rfl (jS (v := mv x_324 m_325) rfl rfl) <| jK 8 rfl (jS (v := .agg #[iv A_326.code, iv A_326.n, str A_326.text]) rfl rfl) <| jL (i := 11) ?_
      refine jo rfl (jW 3 x_324 m_325 rfl rfl rfl rfl) ?_
      rintro _ _ rfl
      refine jL (i := 12) ?_
      refine jp rfl (jc 7 (vs := [iv A_326.code, iv A_326.n, str A_326.text]) (cs' := [iv A_326.code, iv A_326.n, str A_326.text]) rfl rfl rfl rfl kV rfl rfl (lb rfl) rfl) ?_
      rintro _ _ rfl
      refine jr [7, 3, 0, 0, 0, 0, 0, 0, 0, 0] (A := [bk b_276 37 [iv A_326.code, iv A_326.n, str A_326.text], mb b_315 x_324 m_325, rC x_324.a0 x_324.c0 m_325.s, rS x_324.a1 x_324.c1 m_325.r, rS x_324.a2 x_324.c2 m_325.w, rC x_284.a0 x_284.c0 m.s, rS x_284.a1 x_284.c1 m.r, rS x_284.a2 x_284.c2 m.w, bk b_2 29 [iv aC.kind, str aC.name, str aC.to_, iv aC.a, iv aC.b, str aC.text], bk b_1 27 (mc x m)]) rfl ?_
      exact jy ⟨x_284, x_324, m_325, A_326, b_315, b_276, e_322, k_323, f_327, rfl, rfl, rfl, rfl, rfl, rfl, rfl⟩
    refine jO rfl rfl (jh (z := zM) (cs := zC) kd rfl) ?_
    rintro _ _ ⟨b_328, rfl, rfl⟩
    refine ⟨(by simp), ?_⟩
    refine jL (i := 1) ?_
    refine jO rfl rfl (jI [] Tryz.call7 rfl (N_toMach x m hok (by omega) (by omega)) rfl (fun w hw => ⟨hw.seeOut_ hs_x_a0 nM, hw.seeOut_ hs_x_a1 nM, hw.seeOut_ hs_x_a2 nM⟩)) ?_
    rintro _ _ ⟨_, ⟨x_335, m_336, rfl, k_334, rfl, rfl⟩, rfl⟩
    refine ⟨(by simp), ?_⟩
    refine jL (i := 4) ?_
    refine jO rfl rfl (jI [] Tryz.call8 rfl (N_toCall aC) rfl (fun _ _ => trivial)) ?_
    rintro _ _ ⟨_, ⟨rfl, rfl⟩, rfl⟩
    refine ⟨(by simp), ?_⟩
    refine jL (i := 5) ?_
    refine jO rfl rfl (jI [] Tryz.call6 rfl (Q_do x_335 m k_334 (by omega) (by omega) aProc aC (by omega) hcK) rfl (fun w hw => ⟨hw.see (i := 0) rfl, hw.see (i := 1) rfl, hw.see (i := 2) rfl⟩)) ?_
    rintro _ _ ⟨_, ⟨x_345, m_346, A_347, e_343, k_344, f_348, rfl, rfl⟩, rfl⟩
    refine ⟨(by simp), ?_⟩
    refine jK 6 rfl (jC (v := .tuple #[mv x_345 m_346, .agg #[iv A_347.code, iv A_347.n, str A_347.text]]) rfl) <| jK 7 rfl (jS (v := mv x_345 m_346) rfl rfl) <| jK 8 rfl (jS (v := .agg #[iv A_347.code, iv A_347.n, str A_347.text]) rfl rfl) <| jL (i := 11) ?_
    refine jo rfl (jW 6 x_345 m_346 rfl rfl rfl rfl) ?_
    rintro _ _ rfl
    refine jL (i := 12) ?_
    refine jp rfl (jc 7 (vs := [iv A_347.code, iv A_347.n, str A_347.text]) (cs' := [iv A_347.code, iv A_347.n, str A_347.text]) rfl rfl rfl rfl kV rfl rfl (lb rfl) rfl) ?_
    rintro _ _ rfl
    refine jr [7, 6, 0, 0, 0, 0, 0, 0, 0, 0] (A := [bk b_276 37 [iv A_347.code, iv A_347.n, str A_347.text], mb b_328 x_345 m_346, rC x_345.a0 x_345.c0 m_346.s, rS x_345.a1 x_345.c1 m_346.r, rS x_345.a2 x_345.c2 m_346.w, rC x_335.a0 x_335.c0 m.s, rS x_335.a1 x_335.c1 m.r, rS x_335.a2 x_335.c2 m.w, bk b_2 29 [iv aC.kind, str aC.name, str aC.to_, iv aC.a, iv aC.b, str aC.text], bk b_1 27 (mc x m)]) rfl ?_
    exact jy ⟨x_335, x_345, m_346, A_347, b_328, b_276, e_343, k_344, f_348, rfl, rfl, rfl, rfl, rfl, rfl, rfl⟩
  rintro e_349 _ ⟨x_7, x_11, m_12, A_13, b_15, b_16, e_9, k_10, f_14, he_350, he_351, he_352, he_353, he_354, he_355, rfl⟩
  refine jB <| jD <| jF <| jT (jf 9 (vs := (mc x m)) rfl he_351 Tryz.isAgg27 Tryz.sizeOf27 rfl rfl) ?_
  refine jH rfl (jI [] Tryz.call7 rfl (N_toMach x m hok (by omega) (by omega)) rfl (fun w hw => ⟨hw.seeOut_ hs_x_a0 nM, hw.seeOut_ hs_x_a1 nM, hw.seeOut_ hs_x_a2 nM⟩)) ?_
  rintro _ _ ⟨_, ⟨x_358, m_359, rfl, k_357, rfl, rfl⟩, rfl⟩
  refine jH rfl (jh (z := zM) (cs := zC) kd rfl) ?_
  rintro _ _ ⟨b_360, rfl, rfl⟩
  refine jH rfl (jW 0 x_358 m rfl rfl rfl rfl) ?_
  rintro _ _ rfl
  refine jE <| jB <| jD ?_
  refine JC.cut (fun e_ L_ => ∃ x_363 : MA, ∃ b_367 : Nat, ∃ b_368 : Nat, e_ 1 = iv aProc ∧ e_ 3 = .pointer (some ⟨b_1, 0, none⟩) ∧ e_ 5 = .pointer (some ⟨b_2, 0, none⟩) ∧ e_ 6 = .bool false ∧ e_ 8 = .pointer (some ⟨b_15, 0, none⟩) ∧ e_ 9 = .pointer (some ⟨b_16, 0, none⟩) ∧ e_ 10 = .pointer (some ⟨b_360, 0, none⟩) ∧ e_ 11 = .pointer (some ⟨b_367, 0, none⟩) ∧ e_ 12 = .pointer (some ⟨b_368, 0, none⟩) ∧ L_ = [bk b_368 37 [iv A_13.code, iv A_13.n, str A_13.text], mb b_367 x_363 m_12, rC x_363.a0 x_363.c0 m_12.s, rS x_363.a1 x_363.c1 m_12.r, rS x_363.a2 x_363.c2 m_12.w, mb b_360 x_358 m, rC x_358.a0 x_358.c0 m.s, rS x_358.a1 x_358.c1 m.r, rS x_358.a2 x_358.c2 m.w, bk b_16 37 [iv A_13.code, iv A_13.n, str A_13.text], mb b_15 x_11 m_12, rC x_11.a0 x_11.c0 m_12.s, rS x_11.a1 x_11.c1 m_12.r, rS x_11.a2 x_11.c2 m_12.w, rC x_7.a0 x_7.c0 m.s, rS x_7.a1 x_7.c1 m.r, rS x_7.a2 x_7.c2 m.w, bk b_2 29 [iv aC.kind, str aC.name, str aC.to_, iv aC.a, iv aC.b, str aC.text], bk b_1 27 (mc x m)]) ?_ ?_
  · refine jq [mb b_360 x_358 m, bk b_2 29 [iv aC.kind, str aC.name, str aC.to_, iv aC.a, iv aC.b, str aC.text]] 10 mixed (by simp) <| jl 0 rfl (jP 0 x_358 m rfl rfl) <| jK 1 rfl (jC (v := iv aProc) he_350) <| jl 2 rfl (jf 1 (vs := [iv aC.kind, str aC.name, str aC.to_, iv aC.a, iv aC.b, str aC.text]) rfl he_352 Tryz.isAgg29 Tryz.sizeOf29 rfl rfl) ?_
    refine JA.three (i := 3) (j := 8) (k := 9) (by kernel_rfl) ?_ ?_ ?_
    · refine jO rfl rfl (jI [] Tryz.call8 rfl (N_toCall aC) rfl (fun _ _ => trivial)) ?_
      rintro _ _ ⟨_, ⟨rfl, rfl⟩, rfl⟩
      refine ⟨(by simp), ?_⟩
      refine JA.three (i := 4) (j := 8) (k := 9) (by kernel_rfl) ?_ ?_ ?_
      · refine jO rfl rfl (jI [] Tryz.call9 rfl (P_do x_358 m k_357 (by omega) (by omega) aProc aC (by omega) hcK) rfl (fun w hw => ⟨⟨hw.see (i := 1) rfl, hw.see (i := 2) rfl, hw.see (i := 3) rfl⟩, hw.hex hlow hpre.2⟩)) ?_
        rintro _ _ ⟨_, ⟨x_381, m_382, A_383, e_379, k_380, f_384, rfl, rfl⟩, rfl⟩
        have hqe_379 := e_9.symm.trans e_379
        simp only [Prod.mk.injEq] at hqe_379
        obtain ⟨rfl, rfl⟩ := hqe_379
        refine ⟨(by simp), ?_⟩
        refine jK 5 rfl (jC (v := .tuple #[mv x_381 m_12, .agg #[iv A_13.code, iv A_13.n, str A_13.text]]) rfl) <| jK 6 rfl (jS (v := mv x_381 m_12) rfl rfl) <| jK 7 rfl (jS (v := .agg #[iv A_13.code, iv A_13.n, str A_13.text]) rfl rfl) ?_
        refine kM (i := 8) (j := 9) (by kernel_rfl) ?_ ?_
        · refine jO rfl rfl (jh (z := zM) (cs := zC) kd rfl) ?_
          rintro _ _ ⟨b_387, rfl, rfl⟩
          refine ⟨(by simp), ?_⟩
          refine jL (i := 9) ?_
          refine jO rfl rfl (jh (z := .agg #[iv 0, iv 0, str []]) (cs := [iv 0, iv 0, str []]) kg rfl) ?_
          rintro _ _ ⟨b_389, rfl, rfl⟩
          refine ⟨(by simp), ?_⟩
          refine jL (i := 10) ?_
          refine jo rfl (jW 1 x_381 m_12 rfl rfl rfl rfl) ?_
          rintro _ _ rfl
          refine jL (i := 11) ?_
          refine jp rfl (jc 0 (vs := [iv A_13.code, iv A_13.n, str A_13.text]) (cs' := [iv A_13.code, iv A_13.n, str A_13.text]) rfl rfl rfl rfl kV rfl rfl (lb rfl) rfl) ?_
          rintro _ _ rfl
          refine kU [0, 0, 0, 0, 0, 0, 0, 0, 0, 0, 0, 0, 0, 0, 0, 0, 0, 0, 0] ?_
          exact jy ⟨x_381, b_387, b_389, he_350, he_351, he_352, he_353, he_354, he_355, rfl, rfl, rfl,(by kernel_rfl)⟩
        refine jO rfl rfl (jh (z := .agg #[iv 0, iv 0, str []]) (cs := [iv 0, iv 0, str []]) kg rfl) ?_
        rintro _ _ ⟨b_390, rfl, rfl⟩
        refine ⟨(by simp), ?_⟩
        refine jL (i := 8) ?_
        refine jO rfl rfl (jh (z := zM) (cs := zC) kd rfl) ?_
        rintro _ _ ⟨b_392, rfl, rfl⟩
        refine ⟨(by simp), ?_⟩
        refine jL (i := 10) ?_
        refine jo rfl (jW 0 x_381 m_12 rfl rfl rfl rfl) ?_
        rintro _ _ rfl
        refine jL (i := 11) ?_
        refine jp rfl (jc 1 (vs := [iv A_13.code, iv A_13.n, str A_13.text]) (cs' := [iv A_13.code, iv A_13.n, str A_13.text]) rfl rfl rfl rfl kV rfl rfl (lb rfl) rfl) ?_
        rintro _ _ rfl
        refine kU [1, 0, 0, 0, 0, 0, 0, 0, 0, 0, 0, 0, 0, 0, 0, 0, 0, 0, 0] ?_
        exact jy ⟨x_381, b_392, b_390, he_350, he_351, he_352, he_353, he_354, he_355, rfl, rfl, rfl,(by kernel_rfl)⟩
      · refine jO rfl rfl (jh (z := zM) (cs := zC) kd rfl) ?_
        rintro _ _ ⟨b_393, rfl, rfl⟩
        refine ⟨(by simp), ?_⟩
        refine kM (i := 4) (j := 9) (by kernel_rfl) ?_ ?_
        · refine jO rfl rfl (jI [] Tryz.call9 rfl (P_do x_358 m k_357 (by omega) (by omega) aProc aC (by omega) hcK) rfl (fun w hw => ⟨⟨hw.see (i := 2) rfl, hw.see (i := 3) rfl, hw.see (i := 4) rfl⟩, hw.hex hlow hpre.2⟩)) ?_
          rintro _ _ ⟨_, ⟨x_403, m_404, A_405, e_401, k_402, f_406, rfl, rfl⟩, rfl⟩
          have hqe_401 := e_9.symm.trans e_401
          simp only [Prod.mk.injEq] at hqe_401
          obtain ⟨rfl, rfl⟩ := hqe_401
          refine ⟨(by simp), ?_⟩
          refine jK 5 rfl (jC (v := .tuple #[mv x_403 m_12, .agg #[iv A_13.code, iv A_13.n, str A_13.text]]) rfl) <| jK 6 rfl (jS (v := mv x_403 m_12) rfl rfl) <| jK 7 rfl (jS (v := .agg #[iv A_13.code, iv A_13.n, str A_13.text]) rfl rfl) <| jL (i := 9) ?_
          refine jO rfl rfl (jh (z := .agg #[iv 0, iv 0, str []]) (cs := [iv 0, iv 0, str []]) kg rfl) ?_
          rintro _ _ ⟨b_408, rfl, rfl⟩
          refine ⟨(by simp), ?_⟩
          refine jL (i := 10) ?_
          refine jo rfl (jW 4 x_403 m_12 rfl rfl rfl rfl) ?_
          rintro _ _ rfl
          refine jL (i := 11) ?_
          refine jp rfl (jc 0 (vs := [iv A_13.code, iv A_13.n, str A_13.text]) (cs' := [iv A_13.code, iv A_13.n, str A_13.text]) rfl rfl rfl rfl kV rfl rfl (lb rfl) rfl) ?_
          rintro _ _ rfl
          refine kU [0, 3, 0, 0, 0, 0, 0, 0, 0, 0, 0, 0, 0, 0, 0, 0, 0, 0, 0] ?_
          exact jy ⟨x_403, b_393, b_408, he_350, he_351, he_352, he_353, he_354, he_355, rfl, rfl, rfl,(by kernel_rfl)⟩
        refine jO rfl rfl (jh (z := .agg #[iv 0, iv 0, str []]) (cs := [iv 0, iv 0, str []]) kg rfl) ?_
        rintro _ _ ⟨b_409, rfl, rfl⟩
        refine ⟨(by simp), ?_⟩
        refine jL (i := 4) ?_
        refine jO rfl rfl (jI [] Tryz.call9 rfl (P_do x_358 m k_357 (by omega) (by omega) aProc aC (by omega) hcK) rfl (fun w hw => ⟨⟨hw.see (i := 3) rfl, hw.see (i := 4) rfl, hw.see (i := 5) rfl⟩, hw.hex hlow hpre.2⟩)) ?_
        rintro _ _ ⟨_, ⟨x_418, m_419, A_420, e_416, k_417, f_421, rfl, rfl⟩, rfl⟩
        have hqe_416 := e_9.symm.trans e_416
        simp only [Prod.mk.injEq] at hqe_416
        obtain ⟨rfl, rfl⟩ := hqe_416
        refine ⟨(by simp), ?_⟩
        refine jK 5 rfl (jC (v := .tuple #[mv x_418 m_12, .agg #[iv A_13.code, iv A_13.n, str A_13.text]]) rfl) <| jK 6 rfl (jS (v := mv x_418 m_12) rfl rfl) <| jK 7 rfl (jS (v := .agg #[iv A_13.code, iv A_13.n, str A_13.text]) rfl rfl) <| jL (i := 10) ?_
        refine jo rfl (jW 4 x_418 m_12 rfl rfl rfl rfl) ?_
        rintro _ _ rfl
        refine jL (i := 11) ?_
        refine jp rfl (jc 3 (vs := [iv A_13.code, iv A_13.n, str A_13.text]) (cs' := [iv A_13.code, iv A_13.n, str A_13.text]) rfl rfl rfl rfl kV rfl rfl (lb rfl) rfl) ?_
        rintro _ _ rfl
        refine kU [3, 3, 0, 0, 0, 0, 0, 0, 0, 0, 0, 0, 0, 0, 0, 0, 0, 0, 0] ?_
        exact jy ⟨x_418, b_393, b_409, he_350, he_351, he_352, he_353, he_354, he_355, rfl, rfl, rfl,(by kernel_rfl)⟩
      refine jO rfl rfl (jh (z := .agg #[iv 0, iv 0, str []]) (cs := [iv 0, iv 0, str []]) kg rfl) ?_
      rintro _ _ ⟨b_422, rfl, rfl⟩
      refine ⟨(by simp), ?_⟩
      refine kM (i := 4) (j := 8) (by kernel_rfl) ?_ ?_
      · refine jO rfl rfl (jI [] Tryz.call9 rfl (P_do x_358 m k_357 (by omega) (by omega) aProc aC (by omega) hcK) rfl (fun w hw => ⟨⟨hw.see (i := 2) rfl, hw.see (i := 3) rfl, hw.see (i := 4) rfl⟩, hw.hex hlow hpre.2⟩)) ?_
        rintro _ _ ⟨_, ⟨x_432, m_433, A_434, e_430, k_431, f_435, rfl, rfl⟩, rfl⟩
        have hqe_430 := e_9.symm.trans e_430
        simp only [Prod.mk.injEq] at hqe_430
        obtain ⟨rfl, rfl⟩ := hqe_430
        refine ⟨(by simp), ?_⟩
        refine jK 5 rfl (jC (v := .tuple #[mv x_432 m_12, .agg #[iv A_13.code, iv A_13.n, str A_13.text]]) rfl) <| jK 6 rfl (jS (v := mv x_432 m_12) rfl rfl) <| jK 7 rfl (jS (v := .agg #[iv A_13.code, iv A_13.n, str A_13.text]) rfl rfl) <| jL (i := 8) ?_
        refine jO rfl rfl (jh (z := zM) (cs := zC) kd rfl) ?_
        rintro _ _ ⟨b_437, rfl, rfl⟩
        refine ⟨(by simp), ?_⟩
        refine jL (i := 10) ?_
        refine jo rfl (jW 0 x_432 m_12 rfl rfl rfl rfl) ?_
        rintro _ _ rfl
        refine jL (i := 11) ?_
        refine jp rfl (jc 4 (vs := [iv A_13.code, iv A_13.n, str A_13.text]) (cs' := [iv A_13.code, iv A_13.n, str A_13.text]) rfl rfl rfl rfl kV rfl rfl (lb rfl) rfl) ?_
        rintro _ _ rfl
        refine kU [4, 0, 0, 0, 0, 0, 0, 0, 0, 0, 0, 0, 0, 0, 0, 0, 0, 0, 0] ?_
        exact jy ⟨x_432, b_437, b_422, he_350, he_351, he_352, he_353, he_354, he_355, rfl, rfl, rfl,(by kernel_rfl)⟩
      refine jO rfl rfl (jh (z := zM) (cs := zC) kd rfl) ?_
      rintro _ _ ⟨b_438, rfl, rfl⟩
      refine ⟨(by simp), ?_⟩
      refine jL (i := 4) ?_
      refine jO rfl rfl (jI [] Tryz.call9 rfl (P_do x_358 m k_357 (by omega) (by omega) aProc aC (by omega) hcK) rfl (fun w hw => ⟨⟨hw.see (i := 3) rfl, hw.see (i := 4) rfl, hw.see (i := 5) rfl⟩, hw.hex hlow hpre.2⟩)) ?_
      rintro _ _ ⟨_, ⟨x_447, m_448, A_449, e_445, k_446, f_450, rfl, rfl⟩, rfl⟩
      have hqe_445 := e_9.symm.trans e_445
      simp only [Prod.mk.injEq] at hqe_445
      obtain ⟨rfl, rfl⟩ := hqe_445
      refine ⟨(by simp), ?_⟩
      refine jK 5 rfl (jC (v := .tuple #[mv x_447 m_12, .agg #[iv A_13.code, iv A_13.n, str A_13.text]]) rfl) <| jK 6 rfl (jS (v := mv x_447 m_12) rfl rfl) <| jK 7 rfl (jS (v := .agg #[iv A_13.code, iv A_13.n, str A_13.text]) rfl rfl) <| jL (i := 10) ?_
      refine jo rfl (jW 3 x_447 m_12 rfl rfl rfl rfl) ?_
      rintro _ _ rfl
      refine jL (i := 11) ?_
      refine jp rfl (jc 4 (vs := [iv A_13.code, iv A_13.n, str A_13.text]) (cs' := [iv A_13.code, iv A_13.n, str A_13.text]) rfl rfl rfl rfl kV rfl rfl (lb rfl) rfl) ?_
      rintro _ _ rfl
      refine kU [4, 3, 0, 0, 0, 0, 0, 0, 0, 0, 0, 0, 0, 0, 0, 0, 0, 0, 0] ?_
      exact jy ⟨x_447, b_438, b_422, he_350, he_351, he_352, he_353, he_354, he_355, rfl, rfl, rfl,(by kernel_rfl)⟩
    · refine jO rfl rfl (jh (z := zM) (cs := zC) kd rfl) ?_
      rintro _ _ ⟨b_451, rfl, rfl⟩
      refine ⟨(by simp), ?_⟩
      refine kM (i := 3) (j := 9) (by kernel_rfl) ?_ ?_
      · refine jO rfl rfl (jI [] Tryz.call8 rfl (N_toCall aC) rfl (fun _ _ => trivial)) ?_
        rintro _ _ ⟨_, ⟨rfl, rfl⟩, rfl⟩
        refine ⟨(by simp), ?_⟩
        refine kM (i := 4) (j := 9) (by kernel_rfl) ?_ ?_
        · refine jO rfl rfl (jI [] Tryz.call9 rfl (P_do x_358 m k_357 (by omega) (by omega) aProc aC (by omega) hcK) rfl (fun w hw => ⟨⟨hw.see (i := 2) rfl, hw.see (i := 3) rfl, hw.see (i := 4) rfl⟩, hw.hex hlow hpre.2⟩)) ?_
          rintro _ _ ⟨_, ⟨x_462, m_463, A_464, e_460, k_461, f_465, rfl, rfl⟩, rfl⟩
          have hqe_460 := e_9.symm.trans e_460
          simp only [Prod.mk.injEq] at hqe_460
          obtain ⟨rfl, rfl⟩ := hqe_460
          refine ⟨(by simp), ?_⟩
          refine jK 5 rfl (jC (v := .tuple #[mv x_462 m_12, .agg #[iv A_13.code, iv A_13.n, str A_13.text]]) rfl) <| jK 6 rfl (jS (v := mv x_462 m_12) rfl rfl) <| jK 7 rfl (jS (v := .agg #[iv A_13.code, iv A_13.n, str A_13.text]) rfl rfl) <| jL (i := 9) ?_
          refine jO rfl rfl (jh (z := .agg #[iv 0, iv 0, str []]) (cs := [iv 0, iv 0, str []]) kg rfl) ?_
          rintro _ _ ⟨b_467, rfl, rfl⟩
          refine ⟨(by simp), ?_⟩
          refine jL (i := 10) ?_
          refine jo rfl (jW 4 x_462 m_12 rfl rfl rfl rfl) ?_
          rintro _ _ rfl
          refine jL (i := 11) ?_
          refine jp rfl (jc 0 (vs := [iv A_13.code, iv A_13.n, str A_13.text]) (cs' := [iv A_13.code, iv A_13.n, str A_13.text]) rfl rfl rfl rfl kV rfl rfl (lb rfl) rfl) ?_
          rintro _ _ rfl
          refine kU [0, 3, 0, 0, 0, 0, 0, 0, 0, 0, 0, 0, 0, 0, 0, 0, 0, 0, 0] ?_
          exact jy ⟨x_462, b_451, b_467, he_350, he_351, he_352, he_353, he_354, he_355, rfl, rfl, rfl,(by kernel_rfl)⟩
        refine jO rfl rfl (jh (z := .agg #[iv 0, iv 0, str []]) (cs := [iv 0, iv 0, str []]) kg rfl) ?_
        rintro _ _ ⟨b_468, rfl, rfl⟩
        refine ⟨(by simp), ?_⟩
        refine jL (i := 4) ?_
        refine jO rfl rfl (jI [] Tryz.call9 rfl (P_do x_358 m k_357 (by omega) (by omega) aProc aC (by omega) hcK) rfl (fun w hw => ⟨⟨hw.see (i := 3) rfl, hw.see (i := 4) rfl, hw.see (i := 5) rfl⟩, hw.hex hlow hpre.2⟩)) ?_
        rintro _ _ ⟨_, ⟨x_477, m_478, A_479, e_475, k_476, f_480, rfl, rfl⟩, rfl⟩
        have hqe_475 := e_9.symm.trans e_475
        simp only [Prod.mk.injEq] at hqe_475
        obtain ⟨rfl, rfl⟩ := hqe_475
        refine ⟨(by simp), ?_⟩
        refine jK 5 rfl (jC (v := .tuple #[mv x_477 m_12, .agg #[iv A_13.code, iv A_13.n, str A_13.text]]) rfl) <| jK 6 rfl (jS (v := mv x_477 m_12) rfl rfl) <| jK 7 rfl (jS (v := .agg #[iv A_13.code, iv A_13.n, str A_13.text]) rfl rfl) <| jL (i := 10) ?_
        refine jo rfl (jW 4 x_477 m_12 rfl rfl rfl rfl) ?_
        rintro _ _ rfl
        refine jL (i := 11) ?_
        refine jp rfl (jc 3 (vs := [iv A_13.code, iv A_13.n, str A_13.text]) (cs' := [iv A_13.code, iv A_13.n, str A_13.text]) rfl rfl rfl rfl kV rfl rfl (lb rfl) rfl) ?_
        rintro _ _ rfl
        refine kU [3, 3, 0, 0, 0, 0, 0, 0, 0, 0, 0, 0, 0, 0, 0, 0, 0, 0, 0] ?_
        exact jy ⟨x_477, b_451, b_468, he_350, he_351, he_352, he_353, he_354, he_355, rfl, rfl, rfl,(by kernel_rfl)⟩
      refine jO rfl rfl (jh (z := .agg #[iv 0, iv 0, str []]) (cs := [iv 0, iv 0, str []]) kg rfl) ?_
      rintro _ _ ⟨b_481, rfl, rfl⟩
      refine ⟨(by simp), ?_⟩
      refine jL (i := 3) ?_
      refine jO rfl rfl (jI [] Tryz.call8 rfl (N_toCall aC) rfl (fun _ _ => trivial)) ?_
      rintro _ _ ⟨_, ⟨rfl, rfl⟩, rfl⟩
      refine ⟨(by simp), ?_⟩
      refine jL (i := 4) ?_
      refine jO rfl rfl (jI [] Tryz.call9 rfl (P_do x_358 m k_357 (by omega) (by omega) aProc aC (by omega) hcK) rfl (fun w hw => ⟨⟨hw.see (i := 3) rfl, hw.see (i := 4) rfl, hw.see (i := 5) rfl⟩, hw.hex hlow hpre.2⟩)) ?_
      rintro _ _ ⟨_, ⟨x_490, m_491, A_492, e_488, k_489, f_493, rfl, rfl⟩, rfl⟩
      have hqe_488 := e_9.symm.trans e_488
      simp only [Prod.mk.injEq] at hqe_488
      obtain ⟨rfl, rfl⟩ := hqe_488
      refine ⟨(by simp), ?_⟩
      refine jK 5 rfl (jC (v := .tuple #[mv x_490 m_12, .agg #[iv A_13.code, iv A_13.n, str A_13.text]]) rfl) <| jK 6 rfl (jS (v := mv x_490 m_12) rfl rfl) <| jK 7 rfl (jS (v := .agg #[iv A_13.code, iv A_13.n, str A_13.text]) rfl rfl) <| jL (i := 10) ?_
      refine jo rfl (jW 4 x_490 m_12 rfl rfl rfl rfl) ?_
      rintro _ _ rfl
      refine jL (i := 11) ?_
      refine jp rfl (jc 3 (vs := [iv A_13.code, iv A_13.n, str A_13.text]) (cs' := [iv A_13.code, iv A_13.n, str A_13.text]) rfl rfl rfl rfl kV rfl rfl (lb rfl) rfl) ?_
      rintro _ _ rfl
      refine kU [3, 3, 0, 0, 0, 0, 0, 0, 0, 0, 0, 0, 0, 0, 0, 0, 0, 0, 0] ?_
      exact jy ⟨x_490, b_451, b_481, he_350, he_351, he_352, he_353, he_354, he_355, rfl, rfl, rfl,(by kernel_rfl)⟩
    refine jO rfl rfl (jh (z := .agg #[iv 0, iv 0, str []]) (cs := [iv 0, iv 0, str []]) kg rfl) ?_
    rintro _ _ ⟨b_494, rfl, rfl⟩
    refine ⟨(by simp), ?_⟩
    refine kM (i := 3) (j := 8) (by kernel_rfl) ?_ ?_
    · refine jO rfl rfl (jI [] Tryz.call8 rfl (N_toCall aC) rfl (fun _ _ => trivial)) ?_
      rintro _ _ ⟨_, ⟨rfl, rfl⟩, rfl⟩
      refine ⟨(by simp), ?_⟩
      refine kM (i := 4) (j := 8) (by kernel_rfl) ?_ ?_
      · refine jO rfl rfl (jI [] Tryz.call9 rfl (P_do x_358 m k_357 (by omega) (by omega) aProc aC (by omega) hcK) rfl (fun w hw => ⟨⟨hw.see (i := 2) rfl, hw.see (i := 3) rfl, hw.see (i := 4) rfl⟩, hw.hex hlow hpre.2⟩)) ?_
        rintro _ _ ⟨_, ⟨x_505, m_506, A_507, e_503, k_504, f_508, rfl, rfl⟩, rfl⟩
        have hqe_503 := e_9.symm.trans e_503
        simp only [Prod.mk.injEq] at hqe_503
        obtain ⟨rfl, rfl⟩ := hqe_503
        refine ⟨(by simp), ?_⟩
        refine jK 5 rfl (jC (v := .tuple #[mv x_505 m_12, .agg #[iv A_13.code, iv A_13.n, str A_13.text]]) rfl) <| jK 6 rfl (jS (v := mv x_505 m_12) rfl rfl) <| jK 7 rfl (jS (v := .agg #[iv A_13.code, iv A_13.n, str A_13.text]) rfl rfl) <| jL (i := 8) ?_
        refine jO rfl rfl (jh (z := zM) (cs := zC) kd rfl) ?_
        rintro _ _ ⟨b_510, rfl, rfl⟩
        refine ⟨(by simp), ?_⟩
        refine jL (i := 10) ?_
        refine jo rfl (jW 0 x_505 m_12 rfl rfl rfl rfl) ?_
        rintro _ _ rfl
        refine jL (i := 11) ?_
        refine jp rfl (jc 4 (vs := [iv A_13.code, iv A_13.n, str A_13.text]) (cs' := [iv A_13.code, iv A_13.n, str A_13.text]) rfl rfl rfl rfl kV rfl rfl (lb rfl) rfl) ?_
        rintro _ _ rfl
        refine kU [4, 0, 0, 0, 0, 0, 0, 0, 0, 0, 0, 0, 0, 0, 0, 0, 0, 0, 0] ?_
        exact jy ⟨x_505, b_510, b_494, he_350, he_351, he_352, he_353, he_354, he_355, rfl, rfl, rfl,(by kernel_rfl)⟩
      refine jO rfl rfl (jh (z := zM) (cs := zC) kd rfl) ?_
      rintro _ _ ⟨b_511, rfl, rfl⟩
      refine ⟨(by simp), ?_⟩
      refine jL (i := 4) ?_
      refine jO rfl rfl (jI [] Tryz.call9 rfl (P_do x_358 m k_357 (by omega) (by omega) aProc aC (by omega) hcK) rfl (fun w hw => ⟨⟨hw.see (i := 3) rfl, hw.see (i := 4) rfl, hw.see (i := 5) rfl⟩, hw.hex hlow hpre.2⟩)) ?_
      rintro _ _ ⟨_, ⟨x_520, m_521, A_522, e_518, k_519, f_523, rfl, rfl⟩, rfl⟩
      have hqe_518 := e_9.symm.trans e_518
      simp only [Prod.mk.injEq] at hqe_518
      obtain ⟨rfl, rfl⟩ := hqe_518
      refine ⟨(by simp), ?_⟩
      refine jK 5 rfl (jC (v := .tuple #[mv x_520 m_12, .agg #[iv A_13.code, iv A_13.n, str A_13.text]]) rfl) <| jK 6 rfl (jS (v := mv x_520 m_12) rfl rfl) <| jK 7 rfl (jS (v := .agg #[iv A_13.code, iv A_13.n, str A_13.text]) rfl rfl) <| jL (i := 10) ?_
      refine jo rfl (jW 3 x_520 m_12 rfl rfl rfl rfl) ?_
      rintro _ _ rfl
      refine jL (i := 11) ?_
      refine jp rfl (jc 4 (vs := [iv A_13.code, iv A_13.n, str A_13.text]) (cs' := [iv A_13.code, iv A_13.n, str A_13.text]) rfl rfl rfl rfl kV rfl rfl (lb rfl) rfl) ?_
      rintro _ _ rfl
      refine kU [4, 3, 0, 0, 0, 0, 0, 0, 0, 0, 0, 0, 0, 0, 0, 0, 0, 0, 0] ?_
      exact jy ⟨x_520, b_511, b_494, he_350, he_351, he_352, he_353, he_354, he_355, rfl, rfl, rfl,(by kernel_rfl)⟩
    refine jO rfl rfl (jh (z := zM) (cs := zC) kd rfl) ?_
    rintro _ _ ⟨b_524, rfl, rfl⟩
    refine ⟨(by simp), ?_⟩
    refine jL (i := 3) ?_
    refine jO rfl rfl (jI [] Tryz.call8 rfl (N_toCall aC) rfl (fun _ _ => trivial)) ?_
    rintro _ _ ⟨_, ⟨rfl, rfl⟩, rfl⟩
    refine ⟨(by simp), ?_⟩
    refine jL (i := 4) ?_
    refine jO rfl rfl (jI [] Tryz.call9 rfl (P_do x_358 m k_357 (by omega) (by omega) aProc aC (by omega) hcK) rfl (fun w hw => ⟨⟨hw.see (i := 3) rfl, hw.see (i := 4) rfl, hw.see (i := 5) rfl⟩, hw.hex hlow hpre.2⟩)) ?_
    rintro _ _ ⟨_, ⟨x_533, m_534, A_535, e_531, k_532, f_536, rfl, rfl⟩, rfl⟩
    have hqe_531 := e_9.symm.trans e_531
    simp only [Prod.mk.injEq] at hqe_531
    obtain ⟨rfl, rfl⟩ := hqe_531
    refine ⟨(by simp), ?_⟩
    refine jK 5 rfl (jC (v := .tuple #[mv x_533 m_12, .agg #[iv A_13.code, iv A_13.n, str A_13.text]]) rfl) <| jK 6 rfl (jS (v := mv x_533 m_12) rfl rfl) <| jK 7 rfl (jS (v := .agg #[iv A_13.code, iv A_13.n, str A_13.text]) rfl rfl) <| jL (i := 10) ?_
    refine jo rfl (jW 3 x_533 m_12 rfl rfl rfl rfl) ?_
    rintro _ _ rfl
    refine jL (i := 11) ?_
    refine jp rfl (jc 4 (vs := [iv A_13.code, iv A_13.n, str A_13.text]) (cs' := [iv A_13.code, iv A_13.n, str A_13.text]) rfl rfl rfl rfl kV rfl rfl (lb rfl) rfl) ?_
    rintro _ _ rfl
    refine kU [4, 3, 0, 0, 0, 0, 0, 0, 0, 0, 0, 0, 0, 0, 0, 0, 0, 0, 0] ?_
    exact jy ⟨x_533, b_524, b_494, he_350, he_351, he_352, he_353, he_354, he_355, rfl, rfl, rfl,(by kernel_rfl)⟩
  rintro e_537 _ ⟨x_363, b_367, b_368, he_538, he_539, he_540, he_541, he_542, he_543, he_544, he_545, he_546, rfl⟩
  refine jB <| jD <| jD <| jF <| jT (jP 1 x_363 m_12 rfl he_545) <| jT (jP 10 x_11 m_12 rfl he_542) ?_
  refine jH rfl (jI [] Tryz.call10 rfl (N_eqMach x_363 x_11 m_12 k_10 (by omega) (by omega)) rfl (fun w hw => ⟨⟨hw.see (i := 2) rfl, hw.see (i := 3) rfl, hw.see (i := 4) rfl⟩, ⟨hw.see (i := 11) rfl, hw.see (i := 12) rfl, hw.see (i := 13) rfl⟩⟩)) ?_
  rintro _ _ ⟨_, ⟨rfl, rfl⟩, rfl⟩
  refine jA (kA rfl) <| jA (jC (v := .bool false) rfl) <| jb rfl rfl rfl (cB rfl) (ja (jf 0 (vs := [iv A_13.code, iv A_13.n, str A_13.text]) rfl he_546 kX kV rfl rfl)) ?_
  rintro _ _ ⟨rfl, rfl⟩
  refine jb rfl rfl rfl (cB rfl) (ja (jf 9 (vs := [iv A_13.code, iv A_13.n, str A_13.text]) rfl he_543 kX kV rfl rfl)) ?_
  rintro _ _ ⟨rfl, rfl⟩
  refine jb rfl rfl rfl (cB rfl) (jI [] Tryz.call11 rfl (N_eqAnswer A_13) rfl (fun _ _ => trivial)) ?_
  rintro _ _ ⟨_, ⟨rfl, rfl⟩, rfl⟩
  refine jb rfl rfl rfl (cB rfl) (ja (jd (kA rfl))) ?_
  rintro _ _ ⟨rfl, rfl⟩
  refine jA (jw (v := .bool false) (cB rfl) rfl) <| jE <| jB <| jQ (cB rfl) <| jU <| jB <| jD <| jD <| jq [mb b_360 x_358 m, bk b_1 27 (mc x m)] 1000 mixed (by simp) <| jl 0 rfl (jP 0 x_358 m rfl he_544) ?_
  refine jl 1 rfl (jf 1 (vs := (mc x m)) rfl he_539 Tryz.isAgg27 Tryz.sizeOf27 rfl rfl) <| jL (i := 2) ?_
  refine jO rfl rfl (jI [] Tryz.call7 rfl (N_toMach x m k_357 (by omega) (by omega)) rfl (fun w hw => ⟨hw.seeOut_ hs_x_a0 nM, hw.seeOut_ hs_x_a1 nM, hw.seeOut_ hs_x_a2 nM⟩)) ?_
  rintro _ _ ⟨_, ⟨x_553, m_554, rfl, k_552, rfl, rfl⟩, rfl⟩
  refine ⟨(by simp), ?_⟩
  refine jL (i := 3) ?_
  refine jO rfl rfl (jI [] Tryz.call10 rfl (N_eqMach x_358 x_553 m k_552 (by omega) (by omega)) rfl (fun w hw => ⟨⟨hw.see (i := 9) rfl, hw.see (i := 10) rfl, hw.see (i := 11) rfl⟩, ⟨hw.see (i := 0) rfl, hw.see (i := 1) rfl, hw.see (i := 2) rfl⟩⟩)) ?_
  rintro _ _ ⟨_, ⟨rfl, rfl⟩, rfl⟩
  refine ⟨(by simp), ?_⟩
  refine jK 4 rfl (kA rfl) <| kG (by kernel_rfl) <| JQ.sub (L' := [bk b_368 37 [iv A_13.code, iv A_13.n, str A_13.text], mb b_367 x_363 m_12, rC x_363.a0 x_363.c0 m_12.s, rS x_363.a1 x_363.c1 m_12.r, rS x_363.a2 x_363.c2 m_12.w, mb b_360 x_358 m, rC x_358.a0 x_358.c0 m.s, rS x_358.a1 x_358.c1 m.r, rS x_358.a2 x_358.c2 m.w, bk b_16 37 [iv A_13.code, iv A_13.n, str A_13.text], mb b_15 x_11 m_12, rC x_11.a0 x_11.c0 m_12.s, rS x_11.a1 x_11.c1 m_12.r, rS x_11.a2 x_11.c2 m_12.w, bk b_2 29 [iv aC.kind, str aC.name, str aC.to_, iv aC.a, iv aC.b, str aC.text], bk b_1 27 (mc x m)]) (.cons _ (.cons _ (.cons _ (.cons_cons _ (.cons_cons _ (.cons_cons _ (.cons_cons _ (.cons_cons _ (.cons_cons _ (.cons_cons _ (.cons_cons _ (.cons_cons _ (.cons_cons _ (.cons_cons _ (.cons_cons _ (.cons_cons _ (.cons_cons _ (.cons _ (.cons _ (.cons _ (.cons_cons _ (.cons_cons _ (.slnil))))))))))))))))))))))) <| jB <| jQ (cB rfl) <| jU <| jB <| jD <| jF <| jA (jG (v := iv 1) rfl) ?_
  refine jE <| jB <| jD <| jF <| jT (jP 5 x_358 m rfl he_544) <| jA (jC (v := iv 1) rfl) ?_
  refine jH rfl (jI [6, 6, 6] Tryz.call12 rfl (N_markMach x_358 m 1 k_552 (by omega) (by omega) (by omega) (by omega)) rfl (fun _ _ => trivial)) ?_
  rintro _ _ ⟨_, ⟨rfl, rfl⟩, rfl⟩
  have hz554s := k_552.1
  have hz554r := k_552.2.1
  have hz554w := k_552.2.2.1
  refine jA (jG (v := iv ((1 + 2 * m.s.length + m.r.length + m.w.length : Nat) : Int)) rfl) <| jE <| jB <| jD <| jD <| jF <| jA (jC (v := iv ((1 + 2 * m.s.length + m.r.length + m.w.length : Nat) : Int)) rfl) <| jA (js rfl rfl) <| jA (jC (v := .bool (decide (((1 + 2 * m.s.length + m.r.length + m.w.length : Nat) : Int) < 0))) rfl) ?_
  have h_555 : ¬ (((1 + 2 * m.s.length + m.r.length + m.w.length : Nat) : Int) < 0) := (by omega)
  refine jb rfl rfl rfl (cB (dF h_555)) (ja (jP 4 x_363 m_12 rfl he_545)) ?_
  rintro _ _ ⟨rfl, rfl⟩
  refine jb rfl rfl rfl (cB (dF h_555)) (ja (jP 10 x_11 m_12 rfl he_542)) ?_
  rintro _ _ ⟨rfl, rfl⟩
  refine jb rfl rfl rfl (cB (dF h_555)) (jI [] Tryz.call10 rfl (N_eqMach x_363 x_11 m_12 k_10 (by omega) (by omega)) rfl (fun w hw => ⟨⟨hw.see (i := 5) rfl, hw.see (i := 6) rfl, hw.see (i := 7) rfl⟩, ⟨hw.see (i := 11) rfl, hw.see (i := 12) rfl, hw.see (i := 13) rfl⟩⟩)) ?_
  rintro _ _ ⟨_, ⟨rfl, rfl⟩, rfl⟩
  refine jb rfl rfl rfl (cB (dF h_555)) (ja (jd (kA rfl))) ?_
  rintro _ _ ⟨rfl, rfl⟩
  refine jA (jw (v := .bool false) (cB (dF h_555)) rfl) <| jA (jC (v := .bool false) rfl) <| jb rfl rfl rfl (cB rfl) (ja (jf 3 (vs := [iv A_13.code, iv A_13.n, str A_13.text]) rfl he_546 kX kV rfl rfl)) ?_
  rintro _ _ ⟨rfl, rfl⟩
  refine jb rfl rfl rfl (cB rfl) (ja (jf 9 (vs := [iv A_13.code, iv A_13.n, str A_13.text]) rfl he_543 kX kV rfl rfl)) ?_
  rintro _ _ ⟨rfl, rfl⟩
  refine jb rfl rfl rfl (cB rfl) (jI [] Tryz.call11 rfl (N_eqAnswer A_13) rfl (fun _ _ => trivial)) ?_
  rintro _ _ ⟨_, ⟨rfl, rfl⟩, rfl⟩
  refine jb rfl rfl rfl (cB rfl) (ja (jd (kA rfl))) ?_
  rintro _ _ ⟨rfl, rfl⟩
  refine jA (jw (v := .bool false) (cB rfl) rfl) <| jE <| jB <| jQ (cB rfl) <| jU <| jB <| jD <| jF <| jA (jG (v := iv 1) rfl) <| jE ?_
  refine jB <| jD <| jF <| jT (jP 4 x_363 m_12 rfl he_545) <| jA (jC (v := iv 1) rfl) ?_
  refine jH rfl (jI [5, 5, 5] Tryz.call12 rfl (N_markMach x_363 m_12 1 k_10 (by omega) (by omega) (by omega) (by omega)) rfl (fun _ _ => trivial)) ?_
  rintro _ _ ⟨_, ⟨rfl, rfl⟩, rfl⟩
  have hz555s := k_10.1
  have hz555r := k_10.2.1
  have hz555w := k_10.2.2.1
  refine jA (jG (v := iv ((1 + 2 * m_12.s.length + m_12.r.length + m_12.w.length : Nat) : Int)) rfl) <| jE <| jB <| jD <| jF <| jA (jG (v := iv 1) rfl) <| jE <| jB <| jD <| jF ?_
  refine jT (jP 7 x_363 m_12 rfl he_545) <| jA (jC (v := iv 1) rfl) ?_
  refine jH rfl (jI [] Tryz.call13 rfl (N_heldMach x_363 m_12 1 k_10 (by omega) (by omega) (by omega) (by omega)) rfl (fun w hw => ⟨hw.see (i := 0) rfl, hw.see (i := 1) rfl, hw.see (i := 2) rfl⟩)) ?_
  rintro _ _ ⟨_, ⟨rfl, rfl⟩, rfl⟩
  refine jA (jG (v := iv ((1 + 2 * m_12.s.length + m_12.r.length + m_12.w.length : Nat) : Int)) rfl) <| jE <| jB <| jD <| jD <| jF <| jA (jC (v := iv ((1 + 2 * m_12.s.length + m_12.r.length + m_12.w.length : Nat) : Int)) rfl) <| jA (js rfl rfl) <| jE <| jB ?_
  have h_556 : ¬ (((1 + 2 * m_12.s.length + m_12.r.length + m_12.w.length : Nat) : Int) < 0) := (by omega)
  refine jQ (cB (dF h_556)) <| jU <| jB <| jD <| jD <| jF <| jA (jC (v := iv ((1 + 2 * m_12.s.length + m_12.r.length + m_12.w.length : Nat) : Int)) rfl) <| jA (jC (v := iv ((1 + 2 * m_12.s.length + m_12.r.length + m_12.w.length : Nat) : Int)) rfl) <| jA (kQ rfl rfl) <| jE ?_
  refine jB <| jQ (cB (cN (dT rfl))) <| jU <| jB <| jD ?_
  refine JC.cut (fun e_ L_ => ∃ x_559 : MA, ∃ x_563 : MA, ∃ b_567 : Nat, ∃ b_568 : Nat, e_ 6 = .bool false ∧ e_ 8 = .pointer (some ⟨b_15, 0, none⟩) ∧ e_ 9 = .pointer (some ⟨b_16, 0, none⟩) ∧ e_ 11 = .pointer (some ⟨b_367, 0, none⟩) ∧ e_ 14 = iv ((1 + 2 * m_12.s.length + m_12.r.length + m_12.w.length : Nat) : Int) ∧ e_ 15 = iv ((1 + 2 * m_12.s.length + m_12.r.length + m_12.w.length : Nat) : Int) ∧ e_ 16 = .pointer (some ⟨b_567, 0, none⟩) ∧ e_ 17 = .pointer (some ⟨b_568, 0, none⟩) ∧ L_ = [bk b_568 37 [iv A_13.code, iv A_13.n, str A_13.text], mb b_567 x_563 m_12, rC x_563.a0 x_563.c0 m_12.s, rS x_563.a1 x_563.c1 m_12.r, rS x_563.a2 x_563.c2 m_12.w, rC x_559.a0 x_559.c0 m.s, rS x_559.a1 x_559.c1 m.r, rS x_559.a2 x_559.c2 m.w, Res.row (.slice x_363.a0 m_12.s.length x_363.c0) 80 2 m_12.s.length ((markC m_12.s 1).flatMap encC), Res.row (.slice x_363.a1 m_12.r.length x_363.c1) 9 1 m_12.r.length ((markS m_12.r (1 + 2 * m_12.s.length)).map str), Res.row (.slice x_363.a2 m_12.w.length x_363.c2) 9 1 m_12.w.length ((markS m_12.w (1 + 2 * m_12.s.length + m_12.r.length)).map str), Res.row (.slice x_358.a0 m.s.length x_358.c0) 80 2 m.s.length ((markC m.s 1).flatMap encC), Res.row (.slice x_358.a1 m.r.length x_358.c1) 9 1 m.r.length ((markS m.r (1 + 2 * m.s.length)).map str), Res.row (.slice x_358.a2 m.w.length x_358.c2) 9 1 m.w.length ((markS m.w (1 + 2 * m.s.length + m.r.length)).map str), bk b_368 37 [iv A_13.code, iv A_13.n, str A_13.text], mb b_367 x_363 m_12, mb b_360 x_358 m, bk b_16 37 [iv A_13.code, iv A_13.n, str A_13.text], mb b_15 x_11 m_12, rC x_11.a0 x_11.c0 m_12.s, rS x_11.a1 x_11.c1 m_12.r, rS x_11.a2 x_11.c2 m_12.w, bk b_2 29 [iv aC.kind, str aC.name, str aC.to_, iv aC.a, iv aC.b, str aC.text], bk b_1 27 (mc x m)]) ?_ ?_
  · refine jq [bk b_2 29 [iv aC.kind, str aC.name, str aC.to_, iv aC.a, iv aC.b, str aC.text], bk b_1 27 (mc x m)] 11 mixed (by simp) <| jl 0 rfl (jf 1 (vs := (mc x m)) rfl he_539 Tryz.isAgg27 Tryz.sizeOf27 rfl rfl) <| jK 2 rfl (jC (v := iv aProc) he_538) <| jl 3 rfl (jf 0 (vs := [iv aC.kind, str aC.name, str aC.to_, iv aC.a, iv aC.b, str aC.text]) rfl he_540 Tryz.isAgg29 Tryz.sizeOf29 rfl rfl) ?_
    refine JA.three (i := 1) (j := 9) (k := 10) (by kernel_rfl) ?_ ?_ ?_
    · refine jO rfl rfl (jI [] Tryz.call7 rfl (N_toMach x m k_552 (by omega) (by omega)) rfl (fun w hw => ⟨hw.seeOut_ hs_x_a0 nM, hw.seeOut_ hs_x_a1 nM, hw.seeOut_ hs_x_a2 nM⟩)) ?_
      rintro _ _ ⟨_, ⟨x_585, m_586, rfl, k_584, rfl, rfl⟩, rfl⟩
      refine ⟨(by simp), ?_⟩
      refine JA.three (i := 4) (j := 9) (k := 10) (by kernel_rfl) ?_ ?_ ?_
      · refine jO rfl rfl (jI [] Tryz.call8 rfl (N_toCall aC) rfl (fun _ _ => trivial)) ?_
        rintro _ _ ⟨_, ⟨rfl, rfl⟩, rfl⟩
        refine ⟨(by simp), ?_⟩
        refine JA.three (i := 5) (j := 9) (k := 10) (by kernel_rfl) ?_ ?_ ?_
        · refine jO rfl rfl (jI [] Tryz.call9 rfl (P_do x_585 m k_584 (by omega) (by omega) aProc aC (by omega) hcK) rfl (fun w hw => ⟨⟨hw.see (i := 0) rfl, hw.see (i := 1) rfl, hw.see (i := 2) rfl⟩, hw.hex hlow hpre.2⟩)) ?_
          rintro _ _ ⟨_, ⟨x_599, m_600, A_601, e_597, k_598, f_602, rfl, rfl⟩, rfl⟩
          have hqe_597 := e_9.symm.trans e_597
          simp only [Prod.mk.injEq] at hqe_597
          obtain ⟨rfl, rfl⟩ := hqe_597
          refine ⟨(by simp), ?_⟩
          refine jK 6 rfl (jC (v := .tuple #[mv x_599 m_12, .agg #[iv A_13.code, iv A_13.n, str A_13.text]]) rfl) <| jK 7 rfl (jS (v := mv x_599 m_12) rfl rfl) <| jK 8 rfl (jS (v := .agg #[iv A_13.code, iv A_13.n, str A_13.text]) rfl rfl) ?_
          refine kM (i := 9) (j := 10) (by kernel_rfl) ?_ ?_
          · refine jO rfl rfl (jh (z := zM) (cs := zC) kd rfl) ?_
            rintro _ _ ⟨b_605, rfl, rfl⟩
            refine ⟨(by simp), ?_⟩
            refine jL (i := 10) ?_
            refine jO rfl rfl (jh (z := .agg #[iv 0, iv 0, str []]) (cs := [iv 0, iv 0, str []]) kg rfl) ?_
            rintro _ _ ⟨b_607, rfl, rfl⟩
            refine ⟨(by simp), ?_⟩
            refine jL (i := 11) ?_
            refine jo rfl (jW 1 x_599 m_12 rfl rfl rfl rfl) ?_
            rintro _ _ rfl
            refine jL (i := 12) ?_
            refine jp rfl (jc 0 (vs := [iv A_13.code, iv A_13.n, str A_13.text]) (cs' := [iv A_13.code, iv A_13.n, str A_13.text]) rfl rfl rfl rfl kV rfl rfl (lb rfl) rfl) ?_
            rintro _ _ rfl
            refine kU [0, 0, 0, 0, 0, 0, 0, 0, 0, 0, 0, 0, 0, 0, 0, 0, 0, 0, 0, 0, 0, 0, 0, 0] ?_
            exact jy ⟨x_585, x_599, b_605, b_607, he_541, he_542, he_543, he_545, rfl, rfl, rfl, rfl,(by kernel_rfl)⟩
          refine jO rfl rfl (jh (z := .agg #[iv 0, iv 0, str []]) (cs := [iv 0, iv 0, str []]) kg rfl) ?_
          rintro _ _ ⟨b_608, rfl, rfl⟩
          refine ⟨(by simp), ?_⟩
          refine jL (i := 9) ?_
          refine jO rfl rfl (jh (z := zM) (cs := zC) kd rfl) ?_
          rintro _ _ ⟨b_610, rfl, rfl⟩
          refine ⟨(by simp), ?_⟩
          refine jL (i := 11) ?_
          refine jo rfl (jW 0 x_599 m_12 rfl rfl rfl rfl) ?_
          rintro _ _ rfl
          refine jL (i := 12) ?_
          refine jp rfl (jc 1 (vs := [iv A_13.code, iv A_13.n, str A_13.text]) (cs' := [iv A_13.code, iv A_13.n, str A_13.text]) rfl rfl rfl rfl kV rfl rfl (lb rfl) rfl) ?_
          rintro _ _ rfl
          refine kU [1, 0, 0, 0, 0, 0, 0, 0, 0, 0, 0, 0, 0, 0, 0, 0, 0, 0, 0, 0, 0, 0, 0, 0] ?_
          exact jy ⟨x_585, x_599, b_610, b_608, he_541, he_542, he_543, he_545, rfl, rfl, rfl, rfl,(by kernel_rfl)⟩
        · refine jO rfl rfl (jh (z := zM) (cs := zC) kd rfl) ?_
          rintro _ _ ⟨b_611, rfl, rfl⟩
          refine ⟨(by simp), ?_⟩
          refine kM (i := 5) (j := 10) (by kernel_rfl) ?_ ?_
          · refine jO rfl rfl (jI [] Tryz.call9 rfl (P_do x_585 m k_584 (by omega) (by omega) aProc aC (by omega) hcK) rfl (fun w hw => ⟨⟨hw.see (i := 1) rfl, hw.see (i := 2) rfl, hw.see (i := 3) rfl⟩, hw.hex hlow hpre.2⟩)) ?_
            rintro _ _ ⟨_, ⟨x_621, m_622, A_623, e_619, k_620, f_624, rfl, rfl⟩, rfl⟩
            have hqe_619 := e_9.symm.trans e_619
            simp only [Prod.mk.injEq] at hqe_619
            obtain ⟨rfl, rfl⟩ := hqe_619
            refine ⟨(by simp), ?_⟩
            refine jK 6 rfl (jC (v := .tuple #[mv x_621 m_12, .agg #[iv A_13.code, iv A_13.n, str A_13.text]]) rfl) <| jK 7 rfl (jS (v := mv x_621 m_12) rfl rfl) <| jK 8 rfl (jS (v := .agg #[iv A_13.code, iv A_13.n, str A_13.text]) rfl rfl) <| jL (i := 10) ?_
            refine jO rfl rfl (jh (z := .agg #[iv 0, iv 0, str []]) (cs := [iv 0, iv 0, str []]) kg rfl) ?_
            rintro _ _ ⟨b_626, rfl, rfl⟩
            refine ⟨(by simp), ?_⟩
            refine jL (i := 11) ?_
            refine jo rfl (jW 4 x_621 m_12 rfl rfl rfl rfl) ?_
            rintro _ _ rfl
            refine jL (i := 12) ?_
            refine jp rfl (jc 0 (vs := [iv A_13.code, iv A_13.n, str A_13.text]) (cs' := [iv A_13.code, iv A_13.n, str A_13.text]) rfl rfl rfl rfl kV rfl rfl (lb rfl) rfl) ?_
            rintro _ _ rfl
            refine kU [0, 3, 0, 0, 0, 0, 0, 0, 0, 0, 0, 0, 0, 0, 0, 0, 0, 0, 0, 0, 0, 0, 0, 0] ?_
            exact jy ⟨x_585, x_621, b_611, b_626, he_541, he_542, he_543, he_545, rfl, rfl, rfl, rfl,(by kernel_rfl)⟩
          refine jO rfl rfl (jh (z := .agg #[iv 0, iv 0, str []]) (cs := [iv 0, iv 0, str []]) kg rfl) ?_
          rintro _ _ ⟨b_627, rfl, rfl⟩
          refine ⟨(by simp), ?_⟩
          refine jL (i := 5) ?_
          refine jO rfl rfl (jI [] Tryz.call9 rfl (P_do x_585 m k_584 (by omega) (by omega) aProc aC (by omega) hcK) rfl (fun w hw => ⟨⟨hw.see (i := 2) rfl, hw.see (i := 3) rfl, hw.see (i := 4) rfl⟩, hw.hex hlow hpre.2⟩)) ?_
          rintro _ _ ⟨_, ⟨x_636, m_637, A_638, e_634, k_635, f_639, rfl, rfl⟩, rfl⟩
          have hqe_634 := e_9.symm.trans e_634
          simp only [Prod.mk.injEq] at hqe_634
          obtain ⟨rfl, rfl⟩ := hqe_634
          refine ⟨(by simp), ?_⟩
          refine jK 6 rfl (jC (v := .tuple #[mv x_636 m_12, .agg #[iv A_13.code, iv A_13.n, str A_13.text]]) rfl) <| jK 7 rfl (jS (v := mv x_636 m_12) rfl rfl) <| jK 8 rfl (jS (v := .agg #[iv A_13.code, iv A_13.n, str A_13.text]) rfl rfl) <| jL (i := 11) ?_
          refine jo rfl (jW 4 x_636 m_12 rfl rfl rfl rfl) ?_
          rintro _ _ rfl
          refine jL (i := 12) ?_
          refine jp rfl (jc 3 (vs := [iv A_13.code, iv A_13.n, str A_13.text]) (cs' := [iv A_13.code, iv A_13.n, str A_13.text]) rfl rfl rfl rfl kV rfl rfl (lb rfl) rfl) ?_
          rintro _ _ rfl
          refine kU [3, 3, 0, 0, 0, 0, 0, 0, 0, 0, 0, 0, 0, 0, 0, 0, 0, 0, 0, 0, 0, 0, 0, 0] ?_
          exact jy ⟨x_585, x_636, b_611, b_627, he_541, he_542, he_543, he_545, rfl, rfl, rfl, rfl,(by kernel_rfl)⟩
        refine jO rfl rfl (jh (z := .agg #[iv 0, iv 0, str []]) (cs := [iv 0, iv 0, str []]) kg rfl) ?_
        rintro _ _ ⟨b_640, rfl, rfl⟩
        refine ⟨(by simp), ?_⟩
        refine kM (i := 5) (j := 9) (by kernel_rfl) ?_ ?_
        · refine jO rfl rfl (jI [] Tryz.call9 rfl (P_do x_585 m k_584 (by omega) (by omega) aProc aC (by omega) hcK) rfl (fun w hw => ⟨⟨hw.see (i := 1) rfl, hw.see (i := 2) rfl, hw.see (i := 3) rfl⟩, hw.hex hlow hpre.2⟩)) ?_
          rintro _ _ ⟨_, ⟨x_650, m_651, A_652, e_648, k_649, f_653, rfl, rfl⟩, rfl⟩
          have hqe_648 := e_9.symm.trans e_648
          simp only [Prod.mk.injEq] at hqe_648
          obtain ⟨rfl, rfl⟩ := hqe_648
          refine ⟨(by simp), ?_⟩
          refine jK 6 rfl (jC (v := .tuple #[mv x_650 m_12, .agg #[iv A_13.code, iv A_13.n, str A_13.text]]) rfl) <| jK 7 rfl (jS (v := mv x_650 m_12) rfl rfl) <| jK 8 rfl (jS (v := .agg #[iv A_13.code, iv A_13.n, str A_13.text]) rfl rfl) <| jL (i := 9) ?_
          refine jO rfl rfl (jh (z := zM) (cs := zC) kd rfl) ?_
          rintro _ _ ⟨b_655, rfl, rfl⟩
          refine ⟨(by simp), ?_⟩
          refine jL (i := 11) ?_
          refine jo rfl (jW 0 x_650 m_12 rfl rfl rfl rfl) ?_
          rintro _ _ rfl
          refine jL (i := 12) ?_
          refine jp rfl (jc 4 (vs := [iv A_13.code, iv A_13.n, str A_13.text]) (cs' := [iv A_13.code, iv A_13.n, str A_13.text]) rfl rfl rfl rfl kV rfl rfl (lb rfl) rfl) ?_
          rintro _ _ rfl
          refine kU [4, 0, 0, 0, 0, 0, 0, 0, 0, 0, 0, 0, 0, 0, 0, 0, 0, 0, 0, 0, 0, 0, 0, 0] ?_
          exact jy ⟨x_585, x_650, b_655, b_640, he_541, he_542, he_543, he_545, rfl, rfl, rfl, rfl,(by kernel_rfl)⟩
        refine jO rfl rfl (jh (z := zM) (cs := zC) kd rfl) ?_
        rintro _ _ ⟨b_656, rfl, rfl⟩
        refine ⟨(by simp), ?_⟩
        refine jL (i := 5) ?_
        refine jO rfl rfl (jI [] Tryz.call9 rfl (P_do x_585 m k_584 (by omega) (by omega) aProc aC (by omega) hcK) rfl (fun w hw => ⟨⟨hw.see (i := 2) rfl, hw.see (i := 3) rfl, hw.see (i := 4) rfl⟩, hw.hex hlow hpre.2⟩)) ?_
        rintro _ _ ⟨_, ⟨x_665, m_666, A_667, e_663, k_664, f_668, rfl, rfl⟩, rfl⟩
        have hqe_663 := e_9.symm.trans e_663
        simp only [Prod.mk.injEq] at hqe_663
        obtain ⟨rfl, rfl⟩ := hqe_663
        refine ⟨(by simp), ?_⟩
        refine jK 6 rfl (jC (v := .tuple #[mv x_665 m_12, .agg #[iv A_13.code, iv A_13.n, str A_13.text]]) rfl) <| jK 7 rfl (jS (v := mv x_665 m_12) rfl rfl) <| jK 8 rfl (jS (v := .agg #[iv A_13.code, iv A_13.n, str A_13.text]) rfl rfl) <| jL (i := 11) ?_
        refine jo rfl (jW 3 x_665 m_12 rfl rfl rfl rfl) ?_
        rintro _ _ rfl
        refine jL (i := 12) ?_
        refine jp rfl (jc 4 (vs := [iv A_13.code, iv A_13.n, str A_13.text]) (cs' := [iv A_13.code, iv A_13.n, str A_13.text]) rfl rfl rfl rfl kV rfl rfl (lb rfl) rfl) ?_
        rintro _ _ rfl
        refine kU [4, 3, 0, 0, 0, 0, 0, 0, 0, 0, 0, 0, 0, 0, 0, 0, 0, 0, 0, 0, 0, 0, 0, 0] ?_
        exact jy ⟨x_585, x_665, b_656, b_640, he_541, he_542, he_543, he_545, rfl, rfl, rfl, rfl,(by kernel_rfl)⟩
      · refine jO rfl rfl (jh (z := zM) (cs := zC) kd rfl) ?_
        rintro _ _ ⟨b_669, rfl, rfl⟩
        refine ⟨(by simp), ?_⟩
        refine kM (i := 4) (j := 10) (by kernel_rfl) ?_ ?_
        · refine jO rfl rfl (jI [] Tryz.call8 rfl (N_toCall aC) rfl (fun _ _ => trivial)) ?_
          rintro _ _ ⟨_, ⟨rfl, rfl⟩, rfl⟩
          refine ⟨(by simp), ?_⟩
          refine kM (i := 5) (j := 10) (by kernel_rfl) ?_ ?_
          · refine jO rfl rfl (jI [] Tryz.call9 rfl (P_do x_585 m k_584 (by omega) (by omega) aProc aC (by omega) hcK) rfl (fun w hw => ⟨⟨hw.see (i := 1) rfl, hw.see (i := 2) rfl, hw.see (i := 3) rfl⟩, hw.hex hlow hpre.2⟩)) ?_
            rintro _ _ ⟨_, ⟨x_680, m_681, A_682, e_678, k_679, f_683, rfl, rfl⟩, rfl⟩
            have hqe_678 := e_9.symm.trans e_678
            simp only [Prod.mk.injEq] at hqe_678
            obtain ⟨rfl, rfl⟩ := hqe_678
            refine ⟨(by simp), ?_⟩
            refine jK 6 rfl (jC (v := .tuple #[mv x_680 m_12, .agg #[iv A_13.code, iv A_13.n, str A_13.text]]) rfl) <| jK 7 rfl (jS (v := mv x_680 m_12) rfl rfl) <| jK 8 rfl (jS (v := .agg #[iv A_13.code, iv A_13.n, str A_13.text]) rfl rfl) <| jL (i := 10) ?_
            refine jO rfl rfl (jh (z := .agg #[iv 0, iv 0, str []]) (cs := [iv 0, iv 0, str []]) kg rfl) ?_
            rintro _ _ ⟨b_685, rfl, rfl⟩
            refine ⟨(by simp), ?_⟩
            refine jL (i := 11) ?_
            refine jo rfl (jW 4 x_680 m_12 rfl rfl rfl rfl) ?_
            rintro _ _ rfl
            refine jL (i := 12) ?_
            refine jp rfl (jc 0 (vs := [iv A_13.code, iv A_13.n, str A_13.text]) (cs' := [iv A_13.code, iv A_13.n, str A_13.text]) rfl rfl rfl rfl kV rfl rfl (lb rfl) rfl) ?_
            rintro _ _ rfl
            refine kU [0, 3, 0, 0, 0, 0, 0, 0, 0, 0, 0, 0, 0, 0, 0, 0, 0, 0, 0, 0, 0, 0, 0, 0] ?_
            exact jy ⟨x_585, x_680, b_669, b_685, he_541, he_542, he_543, he_545, rfl, rfl, rfl, rfl,(by kernel_rfl)⟩
          refine jO rfl rfl (jh (z := .agg #[iv 0, iv 0, str []]) (cs := [iv 0, iv 0, str []]) kg rfl) ?_
          rintro _ _ ⟨b_686, rfl, rfl⟩
          refine ⟨(by simp), ?_⟩
          refine jL (i := 5) ?_
          refine jO rfl rfl (jI [] Tryz.call9 rfl (P_do x_585 m k_584 (by omega) (by omega) aProc aC (by omega) hcK) rfl (fun w hw => ⟨⟨hw.see (i := 2) rfl, hw.see (i := 3) rfl, hw.see (i := 4) rfl⟩, hw.hex hlow hpre.2⟩)) ?_
          rintro _ _ ⟨_, ⟨x_695, m_696, A_697, e_693, k_694, f_698, rfl, rfl⟩, rfl⟩
          have hqe_693 := e_9.symm.trans e_693
          simp only [Prod.mk.injEq] at hqe_693
          obtain ⟨rfl, rfl⟩ := hqe_693
          refine ⟨(by simp), ?_⟩
          refine jK 6 rfl (jC (v := .tuple #[mv x_695 m_12, .agg #[iv A_13.code, iv A_13.n, str A_13.text]]) rfl) <| jK 7 rfl (jS (v := mv x_695 m_12) rfl rfl) <| jK 8 rfl (jS (v := .agg #[iv A_13.code, iv A_13.n, str A_13.text]) rfl rfl) <| jL (i := 11) ?_
          refine jo rfl (jW 4 x_695 m_12 rfl rfl rfl rfl) ?_
          rintro _ _ rfl
          refine jL (i := 12) ?_
          refine jp rfl (jc 3 (vs := [iv A_13.code, iv A_13.n, str A_13.text]) (cs' := [iv A_13.code, iv A_13.n, str A_13.text]) rfl rfl rfl rfl kV rfl rfl (lb rfl) rfl) ?_
          rintro _ _ rfl
          refine kU [3, 3, 0, 0, 0, 0, 0, 0, 0, 0, 0, 0, 0, 0, 0, 0, 0, 0, 0, 0, 0, 0, 0, 0] ?_
          exact jy ⟨x_585, x_695, b_669, b_686, he_541, he_542, he_543, he_545, rfl, rfl, rfl, rfl,(by kernel_rfl)⟩
        refine jO rfl rfl (jh (z := .agg #[iv 0, iv 0, str []]) (cs := [iv 0, iv 0, str []]) kg rfl) ?_
        rintro _ _ ⟨b_699, rfl, rfl⟩
        refine ⟨(by simp), ?_⟩
        refine jL (i := 4) ?_
        refine jO rfl rfl (jI [] Tryz.call8 rfl (N_toCall aC) rfl (fun _ _ => trivial)) ?_
        rintro _ _ ⟨_, ⟨rfl, rfl⟩, rfl⟩
        refine ⟨(by simp), ?_⟩
        refine jL (i := 5) ?_
        refine jO rfl rfl (jI [] Tryz.call9 rfl (P_do x_585 m k_584 (by omega) (by omega) aProc aC (by omega) hcK) rfl (fun w hw => ⟨⟨hw.see (i := 2) rfl, hw.see (i := 3) rfl, hw.see (i := 4) rfl⟩, hw.hex hlow hpre.2⟩)) ?_
        rintro _ _ ⟨_, ⟨x_708, m_709, A_710, e_706, k_707, f_711, rfl, rfl⟩, rfl⟩
        have hqe_706 := e_9.symm.trans e_706
        simp only [Prod.mk.injEq] at hqe_706
        obtain ⟨rfl, rfl⟩ := hqe_706
        refine ⟨(by simp), ?_⟩
        refine jK 6 rfl (jC (v := .tuple #[mv x_708 m_12, .agg #[iv A_13.code, iv A_13.n, str A_13.text]]) rfl) <| jK 7 rfl (jS (v := mv x_708 m_12) rfl rfl) <| jK 8 rfl (jS (v := .agg #[iv A_13.code, iv A_13.n, str A_13.text]) rfl rfl) <| jL (i := 11) ?_
        refine jo rfl (jW 4 x_708 m_12 rfl rfl rfl rfl) ?_
        rintro _ _ rfl
        refine jL (i := 12) ?_
        refine jp rfl (jc 3 (vs := [iv A_13.code, iv A_13.n, str A_13.text]) (cs' := [iv A_13.code, iv A_13.n, str A_13.text]) rfl rfl rfl rfl kV rfl rfl (lb rfl) rfl) ?_
        rintro _ _ rfl
        refine kU [3, 3, 0, 0, 0, 0, 0, 0, 0, 0, 0, 0, 0, 0, 0, 0, 0, 0, 0, 0, 0, 0, 0, 0] ?_
        exact jy ⟨x_585, x_708, b_669, b_699, he_541, he_542, he_543, he_545, rfl, rfl, rfl, rfl,(by kernel_rfl)⟩
      refine jO rfl rfl (jh (z := .agg #[iv 0, iv 0, str []]) (cs := [iv 0, iv 0, str []]) kg rfl) ?_
      rintro _ _ ⟨b_712, rfl, rfl⟩
      refine ⟨(by simp), ?_⟩
      refine kM (i := 4) (j := 9) (by kernel_rfl) ?_ ?_
      · refine jO rfl rfl (jI [] Tryz.call8 rfl (N_toCall aC) rfl (fun _ _ => trivial)) ?_
        rintro _ _ ⟨_, ⟨rfl, rfl⟩, rfl⟩
        refine ⟨(by simp), ?_⟩
        refine kM (i := 5) (j := 9) (by kernel_rfl) ?_ ?_
        · refine jO rfl rfl (jI [] Tryz.call9 rfl (P_do x_585 m k_584 (by omega) (by omega) aProc aC (by omega) hcK) rfl (fun w hw => ⟨⟨hw.see (i := 1) rfl, hw.see (i := 2) rfl, hw.see (i := 3) rfl⟩, hw.hex hlow hpre.2⟩)) ?_
          rintro _ _ ⟨_, ⟨x_723, m_724, A_725, e_721, k_722, f_726, rfl, rfl⟩, rfl⟩
          have hqe_721 := e_9.symm.trans e_721
          simp only [Prod.mk.injEq] at hqe_721
          obtain ⟨rfl, rfl⟩ := hqe_721
          refine ⟨(by simp), ?_⟩
          refine jK 6 rfl (jC (v := .tuple #[mv x_723 m_12, .agg #[iv A_13.code, iv A_13.n, str A_13.text]]) rfl) <| jK 7 rfl (jS (v := mv x_723 m_12) rfl rfl) <| jK 8 rfl (jS (v := .agg #[iv A_13.code, iv A_13.n, str A_13.text]) rfl rfl) <| jL (i := 9) ?_
          refine jO rfl rfl (jh (z := zM) (cs := zC) kd rfl) ?_
          rintro _ _ ⟨b_728, rfl, rfl⟩
          refine ⟨(by simp), ?_⟩
          refine jL (i := 11) ?_
          refine jo rfl (jW 0 x_723 m_12 rfl rfl rfl rfl) ?_
          rintro _ _ rfl
          refine jL (i := 12) ?_
          refine jp rfl (jc 4 (vs := [iv A_13.code, iv A_13.n, str A_13.text]) (cs' := [iv A_13.code, iv A_13.n, str A_13.text]) rfl rfl rfl rfl kV rfl rfl (lb rfl) rfl) ?_
          rintro _ _ rfl
          refine kU [4, 0, 0, 0, 0, 0, 0, 0, 0, 0, 0, 0, 0, 0, 0, 0, 0, 0, 0, 0, 0, 0, 0, 0] ?_
          exact jy ⟨x_585, x_723, b_728, b_712, he_541, he_542, he_543, he_545, rfl, rfl, rfl, rfl,(by kernel_rfl)⟩
        refine jO rfl rfl (jh (z := zM) (cs := zC) kd rfl) ?_
        rintro _ _ ⟨b_729, rfl, rfl⟩
        refine ⟨(by simp), ?_⟩
        refine jL (i := 5) ?_
        refine jO rfl rfl (jI [] Tryz.call9 rfl (P_do x_585 m k_584 (by omega) (by omega) aProc aC (by omega) hcK) rfl (fun w hw => ⟨⟨hw.see (i := 2) rfl, hw.see (i := 3) rfl, hw.see (i := 4) rfl⟩, hw.hex hlow hpre.2⟩)) ?_
        rintro _ _ ⟨_, ⟨x_738, m_739, A_740, e_736, k_737, f_741, rfl, rfl⟩, rfl⟩
        have hqe_736 := e_9.symm.trans e_736
        simp only [Prod.mk.injEq] at hqe_736
        obtain ⟨rfl, rfl⟩ := hqe_736
        refine ⟨(by simp), ?_⟩
        refine jK 6 rfl (jC (v := .tuple #[mv x_738 m_12, .agg #[iv A_13.code, iv A_13.n, str A_13.text]]) rfl) <| jK 7 rfl (jS (v := mv x_738 m_12) rfl rfl) <| jK 8 rfl (jS (v := .agg #[iv A_13.code, iv A_13.n, str A_13.text]) rfl rfl) <| jL (i := 11) ?_
        refine jo rfl (jW 3 x_738 m_12 rfl rfl rfl rfl) ?_
        rintro _ _ rfl
        refine jL (i := 12) ?_
        refine jp rfl (jc 4 (vs := [iv A_13.code, iv A_13.n, str A_13.text]) (cs' := [iv A_13.code, iv A_13.n, str A_13.text]) rfl rfl rfl rfl kV rfl rfl (lb rfl) rfl) ?_
        rintro _ _ rfl
        refine kU [4, 3, 0, 0, 0, 0, 0, 0, 0, 0, 0, 0, 0, 0, 0, 0, 0, 0, 0, 0, 0, 0, 0, 0] ?_
        exact jy ⟨x_585, x_738, b_729, b_712, he_541, he_542, he_543, he_545, rfl, rfl, rfl, rfl,(by kernel_rfl)⟩
      refine jO rfl rfl (jh (z := zM) (cs := zC) kd rfl) ?_
      rintro _ _ ⟨b_742, rfl, rfl⟩
      refine ⟨(by simp), ?_⟩
      refine jL (i := 4) ?_
      refine jO rfl rfl (jI [] Tryz.call8 rfl (N_toCall aC) rfl (fun _ _ => trivial)) ?_
      rintro _ _ ⟨_, ⟨rfl, rfl⟩, rfl⟩
      refine ⟨(by simp), ?_⟩
      refine jL (i := 5) ?_
      refine jO rfl rfl (jI [] Tryz.call9 rfl (P_do x_585 m k_584 (by omega) (by omega) aProc aC (by omega) hcK) rfl (fun w hw => ⟨⟨hw.see (i := 2) rfl, hw.see (i := 3) rfl, hw.see (i := 4) rfl⟩, hw.hex hlow hpre.2⟩)) ?_
      rintro _ _ ⟨_, ⟨x_751, m_752, A_753, e_749, k_750, f_754, rfl, rfl⟩, rfl⟩
      have hqe_749 := e_9.symm.trans e_749
      simp only [Prod.mk.injEq] at hqe_749
      obtain ⟨rfl, rfl⟩ := hqe_749
      refine ⟨(by simp), ?_⟩
      refine jK 6 rfl (jC (v := .tuple #[mv x_751 m_12, .agg #[iv A_13.code, iv A_13.n, str A_13.text]]) rfl) <| jK 7 rfl (jS (v := mv x_751 m_12) rfl rfl) <| jK 8 rfl (jS (v := .agg #[iv A_13.code, iv A_13.n, str A_13.text]) rfl rfl) <| jL (i := 11) ?_
      refine jo rfl (jW 3 x_751 m_12 rfl rfl rfl rfl) ?_
      rintro _ _ rfl
      refine jL (i := 12) ?_
      refine jp rfl (jc 4 (vs := [iv A_13.code, iv A_13.n, str A_13.text]) (cs' := [iv A_13.code, iv A_13.n, str A_13.text]) rfl rfl rfl rfl kV rfl rfl (lb rfl) rfl) ?_
      rintro _ _ rfl
      refine kU [4, 3, 0, 0, 0, 0, 0, 0, 0, 0, 0, 0, 0, 0, 0, 0, 0, 0, 0, 0, 0, 0, 0, 0] ?_
      exact jy ⟨x_585, x_751, b_742, b_712, he_541, he_542, he_543, he_545, rfl, rfl, rfl, rfl,(by kernel_rfl)⟩
    · refine jO rfl rfl (jh (z := zM) (cs := zC) kd rfl) ?_
      rintro _ _ ⟨b_755, rfl, rfl⟩
      refine ⟨(by simp), ?_⟩
      refine kM (i := 1) (j := 10) (by kernel_rfl) ?_ ?_
      · refine jO rfl rfl (jI [] Tryz.call7 rfl (N_toMach x m k_552 (by omega) (by omega)) rfl (fun w hw => ⟨hw.seeOut_ hs_x_a0 nM, hw.seeOut_ hs_x_a1 nM, hw.seeOut_ hs_x_a2 nM⟩)) ?_
        rintro _ _ ⟨_, ⟨x_763, m_764, rfl, k_762, rfl, rfl⟩, rfl⟩
        refine ⟨(by simp), ?_⟩
        refine kM (i := 4) (j := 10) (by kernel_rfl) ?_ ?_
        · refine jO rfl rfl (jI [] Tryz.call8 rfl (N_toCall aC) rfl (fun _ _ => trivial)) ?_
          rintro _ _ ⟨_, ⟨rfl, rfl⟩, rfl⟩
          refine ⟨(by simp), ?_⟩
          refine kM (i := 5) (j := 10) (by kernel_rfl) ?_ ?_
          · refine jO rfl rfl (jI [] Tryz.call9 rfl (P_do x_763 m k_762 (by omega) (by omega) aProc aC (by omega) hcK) rfl (fun w hw => ⟨⟨hw.see (i := 0) rfl, hw.see (i := 1) rfl, hw.see (i := 2) rfl⟩, hw.hex hlow hpre.2⟩)) ?_
            rintro _ _ ⟨_, ⟨x_775, m_776, A_777, e_773, k_774, f_778, rfl, rfl⟩, rfl⟩
            have hqe_773 := e_9.symm.trans e_773
            simp only [Prod.mk.injEq] at hqe_773
            obtain ⟨rfl, rfl⟩ := hqe_773
            refine ⟨(by simp), ?_⟩
            refine jK 6 rfl (jC (v := .tuple #[mv x_775 m_12, .agg #[iv A_13.code, iv A_13.n, str A_13.text]]) rfl) <| jK 7 rfl (jS (v := mv x_775 m_12) rfl rfl) <| jK 8 rfl (jS (v := .agg #[iv A_13.code, iv A_13.n, str A_13.text]) rfl rfl) <| jL (i := 10) ?_
            refine jO rfl rfl (jh (z := .agg #[iv 0, iv 0, str []]) (cs := [iv 0, iv 0, str []]) kg rfl) ?_
            rintro _ _ ⟨b_780, rfl, rfl⟩
            refine ⟨(by simp), ?_⟩
            refine jL (i := 11) ?_
            refine jo rfl (jW 7 x_775 m_12 rfl rfl rfl rfl) ?_
            rintro _ _ rfl
            refine jL (i := 12) ?_
            refine jp rfl (jc 0 (vs := [iv A_13.code, iv A_13.n, str A_13.text]) (cs' := [iv A_13.code, iv A_13.n, str A_13.text]) rfl rfl rfl rfl kV rfl rfl (lb rfl) rfl) ?_
            rintro _ _ rfl
            refine kU [0, 6, 0, 0, 0, 0, 0, 0, 0, 0, 0, 0, 0, 0, 0, 0, 0, 0, 0, 0, 0, 0, 0, 0] ?_
            exact jy ⟨x_763, x_775, b_755, b_780, he_541, he_542, he_543, he_545, rfl, rfl, rfl, rfl,(by kernel_rfl)⟩
          refine jO rfl rfl (jh (z := .agg #[iv 0, iv 0, str []]) (cs := [iv 0, iv 0, str []]) kg rfl) ?_
          rintro _ _ ⟨b_781, rfl, rfl⟩
          refine ⟨(by simp), ?_⟩
          refine jL (i := 5) ?_
          refine jO rfl rfl (jI [] Tryz.call9 rfl (P_do x_763 m k_762 (by omega) (by omega) aProc aC (by omega) hcK) rfl (fun w hw => ⟨⟨hw.see (i := 1) rfl, hw.see (i := 2) rfl, hw.see (i := 3) rfl⟩, hw.hex hlow hpre.2⟩)) ?_
          rintro _ _ ⟨_, ⟨x_790, m_791, A_792, e_788, k_789, f_793, rfl, rfl⟩, rfl⟩
          have hqe_788 := e_9.symm.trans e_788
          simp only [Prod.mk.injEq] at hqe_788
          obtain ⟨rfl, rfl⟩ := hqe_788
          refine ⟨(by simp), ?_⟩
          refine jK 6 rfl (jC (v := .tuple #[mv x_790 m_12, .agg #[iv A_13.code, iv A_13.n, str A_13.text]]) rfl) <| jK 7 rfl (jS (v := mv x_790 m_12) rfl rfl) <| jK 8 rfl (jS (v := .agg #[iv A_13.code, iv A_13.n, str A_13.text]) rfl rfl) <| jL (i := 11) ?_
          refine jo rfl (jW 7 x_790 m_12 rfl rfl rfl rfl) ?_
          rintro _ _ rfl
          refine jL (i := 12) ?_
          refine jp rfl (jc 3 (vs := [iv A_13.code, iv A_13.n, str A_13.text]) (cs' := [iv A_13.code, iv A_13.n, str A_13.text]) rfl rfl rfl rfl kV rfl rfl (lb rfl) rfl) ?_
          rintro _ _ rfl
          refine kU [3, 6, 0, 0, 0, 0, 0, 0, 0, 0, 0, 0, 0, 0, 0, 0, 0, 0, 0, 0, 0, 0, 0, 0] ?_
          exact jy ⟨x_763, x_790, b_755, b_781, he_541, he_542, he_543, he_545, rfl, rfl, rfl, rfl,(by kernel_rfl)⟩
        refine jO rfl rfl (jh (z := .agg #[iv 0, iv 0, str []]) (cs := [iv 0, iv 0, str []]) kg rfl) ?_
        rintro _ _ ⟨b_794, rfl, rfl⟩
        refine ⟨(by simp), ?_⟩
        refine jL (i := 4) ?_
        refine jO rfl rfl (jI [] Tryz.call8 rfl (N_toCall aC) rfl (fun _ _ => trivial)) ?_
        rintro _ _ ⟨_, ⟨rfl, rfl⟩, rfl⟩
        refine ⟨(by simp), ?_⟩
        refine jL (i := 5) ?_
        refine jO rfl rfl (jI [] Tryz.call9 rfl (P_do x_763 m k_762 (by omega) (by omega) aProc aC (by omega) hcK) rfl (fun w hw => ⟨⟨hw.see (i := 1) rfl, hw.see (i := 2) rfl, hw.see (i := 3) rfl⟩, hw.hex hlow hpre.2⟩)) ?_
        rintro _ _ ⟨_, ⟨x_803, m_804, A_805, e_801, k_802, f_806, rfl, rfl⟩, rfl⟩
        have hqe_801 := e_9.symm.trans e_801
        simp only [Prod.mk.injEq] at hqe_801
        obtain ⟨rfl, rfl⟩ := hqe_801
        refine ⟨(by simp), ?_⟩
        refine jK 6 rfl (jC (v := .tuple #[mv x_803 m_12, .agg #[iv A_13.code, iv A_13.n, str A_13.text]]) rfl) <| jK 7 rfl (jS (v := mv x_803 m_12) rfl rfl) <| jK 8 rfl (jS (v := .agg #[iv A_13.code, iv A_13.n, str A_13.text]) rfl rfl) <| jL (i := 11) ?_
        refine jo rfl (jW 7 x_803 m_12 rfl rfl rfl rfl) ?_
        rintro _ _ rfl
        refine jL (i := 12) ?_
        refine jp rfl (jc 3 (vs := [iv A_13.code, iv A_13.n, str A_13.text]) (cs' := [iv A_13.code, iv A_13.n, str A_13.text]) rfl rfl rfl rfl kV rfl rfl (lb rfl) rfl) ?_
        rintro _ _ rfl
        refine kU [3, 6, 0, 0, 0, 0, 0, 0, 0, 0, 0, 0, 0, 0, 0, 0, 0, 0, 0, 0, 0, 0, 0, 0] ?_
        exact jy ⟨x_763, x_803, b_755, b_794, he_541, he_542, he_543, he_545, rfl, rfl, rfl, rfl,(by kernel_rfl)⟩
      refine jO rfl rfl (jh (z := .agg #[iv 0, iv 0, str []]) (cs := [iv 0, iv 0, str []]) kg rfl) ?_
      rintro _ _ ⟨b_807, rfl, rfl⟩
      refine ⟨(by simp), ?_⟩
      refine jL (i := 1) ?_
      refine jO rfl rfl (jI [] Tryz.call7 rfl (N_toMach x m k_552 (by omega) (by omega)) rfl (fun w hw => ⟨hw.seeOut_ hs_x_a0 nM, hw.seeOut_ hs_x_a1 nM, hw.seeOut_ hs_x_a2 nM⟩)) ?_
      rintro _ _ ⟨_, ⟨x_814, m_815, rfl, k_813, rfl, rfl⟩, rfl⟩
      refine ⟨(by simp), ?_⟩
      refine jL (i := 4) ?_
      refine jO rfl rfl (jI [] Tryz.call8 rfl (N_toCall aC) rfl (fun _ _ => trivial)) ?_
      rintro _ _ ⟨_, ⟨rfl, rfl⟩, rfl⟩
      refine ⟨(by simp), ?_⟩
      refine jL (i := 5) ?_
      refine jO rfl rfl (jI [] Tryz.call9 rfl (P_do x_814 m k_813 (by omega) (by omega) aProc aC (by omega) hcK) rfl (fun w hw => ⟨⟨hw.see (i := 0) rfl, hw.see (i := 1) rfl, hw.see (i := 2) rfl⟩, hw.hex hlow hpre.2⟩)) ?_
      rintro _ _ ⟨_, ⟨x_824, m_825, A_826, e_822, k_823, f_827, rfl, rfl⟩, rfl⟩
      have hqe_822 := e_9.symm.trans e_822
      simp only [Prod.mk.injEq] at hqe_822
      obtain ⟨rfl, rfl⟩ := hqe_822
      refine ⟨(by simp), ?_⟩
      refine jK 6 rfl (jC (v := .tuple #[mv x_824 m_12, .agg #[iv A_13.code, iv A_13.n, str A_13.text]]) rfl) <| jK 7 rfl (jS (v := mv x_824 m_12) rfl rfl) <| jK 8 rfl (jS (v := .agg #[iv A_13.code, iv A_13.n, str A_13.text]) rfl rfl) <| jL (i := 11) ?_
      refine jo rfl (jW 7 x_824 m_12 rfl rfl rfl rfl) ?_
      rintro _ _ rfl
      refine jL (i := 12) ?_
      refine jp rfl (jc 6 (vs := [iv A_13.code, iv A_13.n, str A_13.text]) (cs' := [iv A_13.code, iv A_13.n, str A_13.text]) rfl rfl rfl rfl kV rfl rfl (lb rfl) rfl) ?_
      rintro _ _ rfl
      refine kU [6, 6, 0, 0, 0, 0, 0, 0, 0, 0, 0, 0, 0, 0, 0, 0, 0, 0, 0, 0, 0, 0, 0, 0] ?_
      exact jy ⟨x_814, x_824, b_755, b_807, he_541, he_542, he_543, he_545, rfl, rfl, rfl, rfl,(by kernel_rfl)⟩
    refine jO rfl rfl (jh (z := .agg #[iv 0, iv 0, str []]) (cs := [iv 0, iv 0, str []]) kg rfl) ?_
    rintro _ _ ⟨b_828, rfl, rfl⟩
    refine ⟨(by simp), ?_⟩
    refine kM (i := 1) (j := 9) (by kernel_rfl) ?_ ?_
    · refine jO rfl rfl (jI [] Tryz.call7 rfl (N_toMach x m k_552 (by omega) (by omega)) rfl (fun w hw => ⟨hw.seeOut_ hs_x_a0 nM, hw.seeOut_ hs_x_a1 nM, hw.seeOut_ hs_x_a2 nM⟩)) ?_
      rintro _ _ ⟨_, ⟨x_836, m_837, rfl, k_835, rfl, rfl⟩, rfl⟩
      refine ⟨(by simp), ?_⟩
      refine kM (i := 4) (j := 9) (by kernel_rfl) ?_ ?_
      · refine jO rfl rfl (jI [] Tryz.call8 rfl (N_toCall aC) rfl (fun _ _ => trivial)) ?_
        rintro _ _ ⟨_, ⟨rfl, rfl⟩, rfl⟩
        refine ⟨(by simp), ?_⟩
        refine kM (i := 5) (j := 9) (by kernel_rfl) ?_ ?_
        · refine jO rfl rfl (jI [] Tryz.call9 rfl (P_do x_836 m k_835 (by omega) (by omega) aProc aC (by omega) hcK) rfl (fun w hw => ⟨⟨hw.see (i := 0) rfl, hw.see (i := 1) rfl, hw.see (i := 2) rfl⟩, hw.hex hlow hpre.2⟩)) ?_
          rintro _ _ ⟨_, ⟨x_848, m_849, A_850, e_846, k_847, f_851, rfl, rfl⟩, rfl⟩
          have hqe_846 := e_9.symm.trans e_846
          simp only [Prod.mk.injEq] at hqe_846
          obtain ⟨rfl, rfl⟩ := hqe_846
          refine ⟨(by simp), ?_⟩
          refine jK 6 rfl (jC (v := .tuple #[mv x_848 m_12, .agg #[iv A_13.code, iv A_13.n, str A_13.text]]) rfl) <| jK 7 rfl (jS (v := mv x_848 m_12) rfl rfl) <| jK 8 rfl (jS (v := .agg #[iv A_13.code, iv A_13.n, str A_13.text]) rfl rfl) <| jL (i := 9) ?_
          refine jO rfl rfl (jh (z := zM) (cs := zC) kd rfl) ?_
          rintro _ _ ⟨b_853, rfl, rfl⟩
          refine ⟨(by simp), ?_⟩
          refine jL (i := 11) ?_
          refine jo rfl (jW 0 x_848 m_12 rfl rfl rfl rfl) ?_
          rintro _ _ rfl
          refine jL (i := 12) ?_
          refine jp rfl (jc 7 (vs := [iv A_13.code, iv A_13.n, str A_13.text]) (cs' := [iv A_13.code, iv A_13.n, str A_13.text]) rfl rfl rfl rfl kV rfl rfl (lb rfl) rfl) ?_
          rintro _ _ rfl
          refine kU [7, 0, 0, 0, 0, 0, 0, 0, 0, 0, 0, 0, 0, 0, 0, 0, 0, 0, 0, 0, 0, 0, 0, 0] ?_
          exact jy ⟨x_836, x_848, b_853, b_828, he_541, he_542, he_543, he_545, rfl, rfl, rfl, rfl,(by kernel_rfl)⟩
        refine jO rfl rfl (jh (z := zM) (cs := zC) kd rfl) ?_
        rintro _ _ ⟨b_854, rfl, rfl⟩
        refine ⟨(by simp), ?_⟩
        refine jL (i := 5) ?_
        refine jO rfl rfl (jI [] Tryz.call9 rfl (P_do x_836 m k_835 (by omega) (by omega) aProc aC (by omega) hcK) rfl (fun w hw => ⟨⟨hw.see (i := 1) rfl, hw.see (i := 2) rfl, hw.see (i := 3) rfl⟩, hw.hex hlow hpre.2⟩)) ?_
        rintro _ _ ⟨_, ⟨x_863, m_864, A_865, e_861, k_862, f_866, rfl, rfl⟩, rfl⟩
        have hqe_861 := e_9.symm.trans e_861
        simp only [Prod.mk.injEq] at hqe_861
        obtain ⟨rfl, rfl⟩ := hqe_861
        refine ⟨(by simp), ?_⟩
        refine jK 6 rfl (jC (v := .tuple #[mv x_863 m_12, .agg #[iv A_13.code, iv A_13.n, str A_13.text]]) rfl) <| jK 7 rfl (jS (v := mv x_863 m_12) rfl rfl) <| jK 8 rfl (jS (v := .agg #[iv A_13.code, iv A_13.n, str A_13.text]) rfl rfl) <| jL (i := 11) ?_
        refine jo rfl (jW 3 x_863 m_12 rfl rfl rfl rfl) ?_
        rintro _ _ rfl
        refine jL (i := 12) ?_
        refine jp rfl (jc 7 (vs := [iv A_13.code, iv A_13.n, str A_13.text]) (cs' := [iv A_13.code, iv A_13.n, str A_13.text]) rfl rfl rfl rfl kV rfl rfl (lb rfl) rfl) ?_
        rintro _ _ rfl
        refine kU [7, 3, 0, 0, 0, 0, 0, 0, 0, 0, 0, 0, 0, 0, 0, 0, 0, 0, 0, 0, 0, 0, 0, 0] ?_
        exact jy ⟨x_836, x_863, b_854, b_828, he_541, he_542, he_543, he_545, rfl, rfl, rfl, rfl,(by kernel_rfl)⟩
      refine jO rfl rfl (jh (z := zM) (cs := zC) kd rfl) ?_
      rintro _ _ ⟨b_867, rfl, rfl⟩
      refine ⟨(by simp), ?_⟩
      refine jL (i := 4) ?_
      refine jO rfl rfl (jI [] Tryz.call8 rfl (N_toCall aC) rfl (fun _ _ => trivial)) ?_
      rintro _ _ ⟨_, ⟨rfl, rfl⟩, rfl⟩
      refine ⟨(by simp), ?_⟩
      refine jL (i := 5) ?_
      refine jO rfl rfl (jI [] Tryz.call9 rfl (P_do x_836 m k_835 (by omega) (by omega) aProc aC (by omega) hcK) rfl (fun w hw => ⟨⟨hw.see (i := 1) rfl, hw.see (i := 2) rfl, hw.see (i := 3) rfl⟩, hw.hex hlow hpre.2⟩)) ?_
      rintro _ _ ⟨_, ⟨x_876, m_877, A_878, e_874, k_875, f_879, rfl, rfl⟩, rfl⟩
      have hqe_874 := e_9.symm.trans e_874
      simp only [Prod.mk.injEq] at hqe_874
      obtain ⟨rfl, rfl⟩ := hqe_874
      refine ⟨(by simp), ?_⟩
      refine jK 6 rfl (jC (v := .tuple #[mv x_876 m_12, .agg #[iv A_13.code, iv A_13.n, str A_13.text]]) rfl) <| jK 7 rfl (jS (v := mv x_876 m_12) rfl rfl) <| jK 8 rfl (jS (v := .agg #[iv A_13.code, iv A_13.n, str A_13.text]) rfl rfl) <| jL (i := 11) ?_
      refine jo rfl (jW 3 x_876 m_12 rfl rfl rfl rfl) ?_
      rintro _ _ rfl
      refine jL (i := 12) ?_
      refine jp rfl (jc 7 (vs := [iv A_13.code, iv A_13.n, str A_13.text]) (cs' := [iv A_13.code, iv A_13.n, str A_13.text]) rfl rfl rfl rfl kV rfl rfl (lb rfl) rfl) ?_
      rintro _ _ rfl
      refine kU [7, 3, 0, 0, 0, 0, 0, 0, 0, 0, 0, 0, 0, 0, 0, 0, 0, 0, 0, 0, 0, 0, 0, 0] ?_
      exact jy ⟨x_836, x_876, b_867, b_828, he_541, he_542, he_543, he_545, rfl, rfl, rfl, rfl,(by kernel_rfl)⟩
    refine jO rfl rfl (jh (z := zM) (cs := zC) kd rfl) ?_
    rintro _ _ ⟨b_880, rfl, rfl⟩
    refine ⟨(by simp), ?_⟩
    refine jL (i := 1) ?_
    refine jO rfl rfl (jI [] Tryz.call7 rfl (N_toMach x m k_552 (by omega) (by omega)) rfl (fun w hw => ⟨hw.seeOut_ hs_x_a0 nM, hw.seeOut_ hs_x_a1 nM, hw.seeOut_ hs_x_a2 nM⟩)) ?_
    rintro _ _ ⟨_, ⟨x_887, m_888, rfl, k_886, rfl, rfl⟩, rfl⟩
    refine ⟨(by simp), ?_⟩
    refine jL (i := 4) ?_
    refine jO rfl rfl (jI [] Tryz.call8 rfl (N_toCall aC) rfl (fun _ _ => trivial)) ?_
    rintro _ _ ⟨_, ⟨rfl, rfl⟩, rfl⟩
    refine ⟨(by simp), ?_⟩
    refine jL (i := 5) ?_
    refine jO rfl rfl (jI [] Tryz.call9 rfl (P_do x_887 m k_886 (by omega) (by omega) aProc aC (by omega) hcK) rfl (fun w hw => ⟨⟨hw.see (i := 0) rfl, hw.see (i := 1) rfl, hw.see (i := 2) rfl⟩, hw.hex hlow hpre.2⟩)) ?_
    rintro _ _ ⟨_, ⟨x_897, m_898, A_899, e_895, k_896, f_900, rfl, rfl⟩, rfl⟩
    have hqe_895 := e_9.symm.trans e_895
    simp only [Prod.mk.injEq] at hqe_895
    obtain ⟨rfl, rfl⟩ := hqe_895
    refine ⟨(by simp), ?_⟩
    refine jK 6 rfl (jC (v := .tuple #[mv x_897 m_12, .agg #[iv A_13.code, iv A_13.n, str A_13.text]]) rfl) <| jK 7 rfl (jS (v := mv x_897 m_12) rfl rfl) <| jK 8 rfl (jS (v := .agg #[iv A_13.code, iv A_13.n, str A_13.text]) rfl rfl) <| jL (i := 11) ?_
    refine jo rfl (jW 6 x_897 m_12 rfl rfl rfl rfl) ?_
    rintro _ _ rfl
    refine jL (i := 12) ?_
    refine jp rfl (jc 7 (vs := [iv A_13.code, iv A_13.n, str A_13.text]) (cs' := [iv A_13.code, iv A_13.n, str A_13.text]) rfl rfl rfl rfl kV rfl rfl (lb rfl) rfl) ?_
    rintro _ _ rfl
    refine kU [7, 6, 0, 0, 0, 0, 0, 0, 0, 0, 0, 0, 0, 0, 0, 0, 0, 0, 0, 0, 0, 0, 0, 0] ?_
    exact jy ⟨x_887, x_897, b_880, b_828, he_541, he_542, he_543, he_545, rfl, rfl, rfl, rfl,(by kernel_rfl)⟩
  rintro e_901 _ ⟨x_559, x_563, b_567, b_568, he_902, he_903, he_904, he_905, he_906, he_907, he_908, he_909, rfl⟩
  refine JQ.sub (L' := [bk b_568 37 [iv A_13.code, iv A_13.n, str A_13.text], mb b_567 x_563 m_12, rC x_563.a0 x_563.c0 m_12.s, rS x_563.a1 x_563.c1 m_12.r, rS x_563.a2 x_563.c2 m_12.w, Res.row (.slice x_363.a0 m_12.s.length x_363.c0) 80 2 m_12.s.length ((markC m_12.s 1).flatMap encC), Res.row (.slice x_363.a1 m_12.r.length x_363.c1) 9 1 m_12.r.length ((markS m_12.r (1 + 2 * m_12.s.length)).map str), Res.row (.slice x_363.a2 m_12.w.length x_363.c2) 9 1 m_12.w.length ((markS m_12.w (1 + 2 * m_12.s.length + m_12.r.length)).map str), mb b_367 x_363 m_12, bk b_16 37 [iv A_13.code, iv A_13.n, str A_13.text], mb b_15 x_11 m_12, rC x_11.a0 x_11.c0 m_12.s, rS x_11.a1 x_11.c1 m_12.r, rS x_11.a2 x_11.c2 m_12.w]) (.cons_cons _ (.cons_cons _ (.cons_cons _ (.cons_cons _ (.cons_cons _ (.cons _ (.cons _ (.cons _ (.cons_cons _ (.cons_cons _ (.cons_cons _ (.cons _ (.cons _ (.cons _ (.cons _ (.cons_cons _ (.cons _ (.cons_cons _ (.cons_cons _ (.cons_cons _ (.cons_cons _ (.cons_cons _ (.cons _ (.cons _ (.slnil))))))))))))))))))))))))) <| jB <| jD <| jD <| jF <| jT (jP 1 x_563 m_12 rfl he_908) <| jT (jP 10 x_11 m_12 rfl he_903) ?_
  refine jH rfl (jI [] Tryz.call10 rfl (N_eqMach x_563 x_11 m_12 k_10 (by omega) (by omega)) rfl (fun w hw => ⟨⟨hw.see (i := 2) rfl, hw.see (i := 3) rfl, hw.see (i := 4) rfl⟩, ⟨hw.see (i := 11) rfl, hw.see (i := 12) rfl, hw.see (i := 13) rfl⟩⟩)) ?_
  rintro _ _ ⟨_, ⟨rfl, rfl⟩, rfl⟩
  refine jA (kA rfl) <| jA (jC (v := .bool false) rfl) <| jb rfl rfl rfl (cB rfl) (ja (jf 0 (vs := [iv A_13.code, iv A_13.n, str A_13.text]) rfl he_909 kX kV rfl rfl)) ?_
  rintro _ _ ⟨rfl, rfl⟩
  refine jb rfl rfl rfl (cB rfl) (ja (jf 9 (vs := [iv A_13.code, iv A_13.n, str A_13.text]) rfl he_904 kX kV rfl rfl)) ?_
  rintro _ _ ⟨rfl, rfl⟩
  refine jb rfl rfl rfl (cB rfl) (jI [] Tryz.call11 rfl (N_eqAnswer A_13) rfl (fun _ _ => trivial)) ?_
  rintro _ _ ⟨_, ⟨rfl, rfl⟩, rfl⟩
  refine jb rfl rfl rfl (cB rfl) (ja (jd (kA rfl))) ?_
  rintro _ _ ⟨rfl, rfl⟩
  refine jA (jw (v := .bool false) (cB rfl) rfl) <| jE <| JQ.sub (L' := [Res.row (.slice x_363.a0 m_12.s.length x_363.c0) 80 2 m_12.s.length ((markC m_12.s 1).flatMap encC), Res.row (.slice x_363.a1 m_12.r.length x_363.c1) 9 1 m_12.r.length ((markS m_12.r (1 + 2 * m_12.s.length)).map str), Res.row (.slice x_363.a2 m_12.w.length x_363.c2) 9 1 m_12.w.length ((markS m_12.w (1 + 2 * m_12.s.length + m_12.r.length)).map str), mb b_367 x_363 m_12]) (.cons _ (.cons _ (.cons _ (.cons _ (.cons _ (.cons_cons _ (.cons_cons _ (.cons_cons _ (.cons_cons _ (.cons _ (.cons _ (.cons _ (.cons _ (.cons _ (.slnil))))))))))))))) <| jB <| jQ (cB rfl) <| jU <| jB <| jD <| jF <| jA (jG (v := iv 1) rfl) ?_
  refine jE <| jB <| jD <| jF <| jT (jP 3 x_363 m_12 rfl he_905) <| jA (jC (v := iv 1) rfl) ?_
  refine jH rfl (jI [] Tryz.call13 rfl (N_heldMach x_363 m_12 1 k_10 (by omega) (by omega) (by omega) (by omega)) rfl (fun w hw => ⟨hw.see (i := 0) rfl, hw.see (i := 1) rfl, hw.see (i := 2) rfl⟩)) ?_
  rintro _ _ ⟨_, ⟨rfl, rfl⟩, rfl⟩
  refine jA (jG (v := iv ((1 + 2 * m_12.s.length + m_12.r.length + m_12.w.length : Nat) : Int)) rfl) <| jE <| jB <| jD <| jD <| jF <| jA (jC (v := iv ((1 + 2 * m_12.s.length + m_12.r.length + m_12.w.length : Nat) : Int)) rfl) <| jA (js rfl rfl) <| jE <| jB ?_
  refine jQ (cB (dF h_556)) <| jU <| jB <| jD <| jD <| jF <| jA (jC (v := iv ((1 + 2 * m_12.s.length + m_12.r.length + m_12.w.length : Nat) : Int)) rfl) <| jA (jC (v := iv ((1 + 2 * m_12.s.length + m_12.r.length + m_12.w.length : Nat) : Int)) he_906) <| jA (kQ rfl rfl) <| jE ?_
  refine jB <| jQ (cB (cN (dT rfl))) <| jU <| jB <| jD <| jF <| jA (jG (v := .bool true) rfl) <| jE <| jB <| jM ?_
  refine jV (.inl rfl) rfl (jN (v := .bool true) rfl) (List.nil_sublist _) ?_
  exact ⟨rfl, rfl⟩

end Go.Proofs.YthdgcbdfcclgbaaGreatDoor
