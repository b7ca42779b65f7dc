/-
  laws.FnDisks walked: it returns true.
-/
import Derived.Test.YtjncpgcccgdeiaaGreatDoorS62DRAWS
set_option linter.unusedSimpArgs false
set_option linter.unusedVariables false
set_option linter.unnecessarySimpa false
namespace Go.Proofs.YtjncpgcccgdeiaaGreatDoor
open Go Go.RowKit
attribute [local irreducible] JL JC JQ JO LO PO JA JX Ct

set_option maxRecDepth 8000 in
set_option maxHeartbeats 4000000 in
theorem L_Disks (pa : Option Addr) (pc : Nat) (p : Str) :
    Ct Tryz.prog 10 [.slice pa p.length pc] [] (fun w => Sees w (.slice pa p.length pc) 1 p.length (p.map encB) ∧ HexOk w) (fun v A' => v = .bool true ∧ A' = []) := by
  refine Ct.introL Tryz.func10 rfl Tryz.ntmps10 (lb rfl) fun w0 hpre hlow => ?_
  have hs_pa : Sees w0 _ _ _ _ := hpre.1
  refine jC <| jF <| jA (jG (v := .bool false) rfl) <| jE <| jB <| jC <| jC <| jF <| jA (jD (v := .slice pa p.length pc) rfl) ?_
  refine jH rfl (jI [] Tryz.call24 rfl (N_big pa pc p) rfl (fun _ _ => trivial)) ?_
  rintro _ _ ⟨_, ⟨rfl, rfl⟩, rfl⟩
  refine jE <| jB ?_
  by_cases h_1 : 1048576 < ((p.length : Nat) : Int)
  · refine jW (cB (dT h_1)) <| jC <| jF <| jA (jG (v := .bool true) rfl) <| jE <| jB <| jN <| jX <| jV (.inl rfl) rfl (jJ (v := .bool true) rfl) (List.nil_sublist _) ?_
    exact ⟨rfl, rfl⟩
  refine jR (cB (dF h_1)) <| jT <| jB <| jC <| jF <| jA (jD (v := .slice pa p.length pc) rfl) ?_
  refine jH rfl (jI [] Tryz.call45 rfl (D_dRecovered pa pc p (by omega)) rfl (fun w hw => hw.seeOut_ hs_pa nM)) ?_
  rintro _ _ ⟨_, ⟨y_2, hd_3, rfl, rfl⟩, rfl⟩
  refine jH rfl (jo (z := .agg #[.slice none 0 0, str [], iv 0]) (cs := [.slice none 0 0, str [], iv 0]) ko rfl) ?_
  rintro _ _ ⟨b_7, rfl, rfl⟩
  refine jH rfl (ja 0 (vs := [.slice y_2.a y_2.l.length y_2.c, str y_2.jt, iv y_2.js]) (cs' := [.slice y_2.a y_2.l.length y_2.c, str y_2.jt, iv y_2.js]) rfl rfl rfl rfl kd rfl rfl (lb rfl) rfl) ?_
  rintro _ _ rfl
  refine jE <| jB <| jC <| jF <| jK (jO 0 (vs := [.slice y_2.a y_2.l.length y_2.c, str y_2.jt, iv y_2.js]) rfl rfl ke kd rfl rfl) ?_
  refine jH rfl (jI [] Tryz.call33 rfl (Y_iRecov y_2 hd_3.z hd_3.l) rfl (fun w hw => ⟨hw.seeRows 1 rfl, hw.hex hlow hpre.2⟩)) ?_
  rintro _ _ ⟨_, ⟨a_8, c_9, rfl, rfl⟩, rfl⟩
  have hrn_10 := recov_len0 y_2.dat
  refine jA (jD (v := .tuple #[.slice a_8 y_2.dat.recov.1.length c_9, iv y_2.dat.recov.2]) rfl) <| jA (je (v := .slice a_8 y_2.dat.recov.1.length c_9) rfl rfl) <| jA (je (v := iv y_2.dat.recov.2) rfl rfl) <| jA (jG (v := .slice a_8 y_2.dat.recov.1.length c_9) rfl) <| jA (jG (v := iv y_2.dat.recov.2) rfl) <| jE <| jB <| jC <| jF <| jK (jO 1 (vs := [.slice y_2.a y_2.l.length y_2.c, str y_2.jt, iv y_2.js]) rfl rfl ke kd rfl rfl) ?_
  refine jH rfl (jI [] Tryz.call43 rfl (Y_sRecov y_2 hd_3.z hd_3.l) rfl (fun w hw => hw.seeRows 2 rfl)) ?_
  rintro _ _ ⟨_, ⟨a_11, c_12, rfl, rfl⟩, rfl⟩
  have hrn_13 := recov_len0 y_2.dat
  refine jA (jD (v := .tuple #[.slice a_11 y_2.dat.recov.1.length c_12, iv y_2.dat.recov.2]) rfl) <| jA (je (v := .slice a_11 y_2.dat.recov.1.length c_12) rfl rfl) <| jA (je (v := iv y_2.dat.recov.2) rfl rfl) <| jA (jG (v := .slice a_11 y_2.dat.recov.1.length c_12) rfl) <| jA (jG (v := iv y_2.dat.recov.2) rfl) <| jE <| jB <| jC <| jF <| jA (jD (v := .slice pa p.length pc) rfl) ?_
  refine jH rfl (jI [] Tryz.call46 rfl (D_dFallDisk pa pc p (by omega)) rfl (fun w hw => hw.seeOut_ hs_pa nM)) ?_
  rintro _ _ ⟨_, ⟨y_14, n_18, hd_15, hd_17, rfl, rfl⟩, rfl⟩
  refine jA (jD (v := .tuple #[.agg #[.slice y_14.a y_14.l.length y_14.c, str y_14.jt, iv y_14.js], iv n_18]) rfl) <| jA (je (v := .agg #[.slice y_14.a y_14.l.length y_14.c, str y_14.jt, iv y_14.js]) rfl rfl) <| jA (je (v := iv n_18) rfl rfl) ?_
  refine jH rfl (jo (z := .agg #[.slice none 0 0, str [], iv 0]) (cs := [.slice none 0 0, str [], iv 0]) ko rfl) ?_
  rintro _ _ ⟨b_19, rfl, rfl⟩
  refine jH rfl (ja 0 (vs := [.slice y_14.a y_14.l.length y_14.c, str y_14.jt, iv y_14.js]) (cs' := [.slice y_14.a y_14.l.length y_14.c, str y_14.jt, iv y_14.js]) rfl rfl rfl rfl kd rfl rfl (lb rfl) rfl) ?_
  rintro _ _ rfl
  refine jA (jG (v := iv n_18) rfl) <| jE <| jB <| jC <| jF <| jK (jO 0 (vs := [.slice y_14.a y_14.l.length y_14.c, str y_14.jt, iv y_14.js]) rfl rfl ke kd rfl rfl) <| jA (jD (v := iv n_18) rfl) ?_
  refine jH rfl (jI [] Tryz.call31 rfl (Y_iFallD y_14 hd_15.z hd_15.l n_18) rfl (fun w hw => hw.seeRows 1 rfl)) ?_
  rintro _ _ ⟨_, ⟨y_20, hy_21, rfl, rfl⟩, rfl⟩
  have hz_22 : y_20.dat.okz := by rw [hy_21]; exact fall_okz hd_15.z n_18
  have hl_23 : y_20.dat.lim 1000000000 := by rw [hy_21]; exact fall_lim hd_15.l n_18
  refine jH rfl (jo (z := .agg #[.slice none 0 0, str [], iv 0]) (cs := [.slice none 0 0, str [], iv 0]) ko rfl) ?_
  rintro _ _ ⟨b_24, rfl, rfl⟩
  refine jH rfl (ja 0 (vs := [.slice y_20.a y_20.l.length y_20.c, str y_20.jt, iv y_20.js]) (cs' := [.slice y_20.a y_20.l.length y_20.c, str y_20.jt, iv y_20.js]) rfl rfl rfl rfl kd rfl rfl (lb rfl) rfl) ?_
  rintro _ _ rfl
  refine jE <| jB <| jC <| jF <| jK (jO 2 (vs := [.slice y_14.a y_14.l.length y_14.c, str y_14.jt, iv y_14.js]) rfl rfl ke kd rfl rfl) ?_
  refine jH rfl (jI [] Tryz.call19 rfl (Y_iClean y_14 hd_15.z hd_15.l) rfl (fun w hw => ⟨hw.seeRows 3 rfl, hw.hex hlow hpre.2⟩)) ?_
  rintro _ _ ⟨_, ⟨y_25, hy_26, rfl, rfl⟩, rfl⟩
  have hz_27 : y_25.dat.okz := by rw [hy_26]; exact clean_okz hd_15.z
  have hl_28 : y_25.dat.lim 1000000000 := by rw [hy_26]; exact clean_lim hd_15.l
  refine jH rfl (jo (z := .agg #[.slice none 0 0, str [], iv 0]) (cs := [.slice none 0 0, str [], iv 0]) ko rfl) ?_
  rintro _ _ ⟨b_29, rfl, rfl⟩
  refine jH rfl (ja 0 (vs := [.slice y_25.a y_25.l.length y_25.c, str y_25.jt, iv y_25.js]) (cs' := [.slice y_25.a y_25.l.length y_25.c, str y_25.jt, iv y_25.js]) rfl rfl rfl rfl kd rfl rfl (lb rfl) rfl) ?_
  rintro _ _ rfl
  refine jE <| jB <| jC <| jC <| kJ [bk b_29 31 [.slice y_25.a y_25.l.length y_25.c, str y_25.jt, iv y_25.js], bk b_24 31 [.slice y_20.a y_20.l.length y_20.c, str y_20.jt, iv y_20.js], bk b_19 31 [.slice y_14.a y_14.l.length y_14.c, str y_14.jt, iv y_14.js], bk b_7 31 [.slice y_2.a y_2.l.length y_2.c, str y_2.jt, iv y_2.js]] 1000 mixed (by simp) <| jL 0 rfl (jD (v := iv y_2.dat.recov.2) rfl) <| jL 1 rfl (jD (v := iv y_2.dat.recov.2) rfl) <| jL 2 rfl (kS rfl rfl) <| jL 3 rfl (jD (v := .bool (!(decide (y_2.dat.recov.2 = y_2.dat.recov.2)))) rfl) <| jg 4 rfl (by kernel_rfl) (NP.th (NP.th NP.body)) (by kernel_rfl) (by kernel_rfl) rfl rfl rfl (cB (cN (dT rfl))) (jD (v := .slice a_8 y_2.dat.recov.1.length c_9) rfl) ?_
  refine jg 5 rfl (by kernel_rfl) (NP.th (NP.th NP.body)) (by kernel_rfl) (by kernel_rfl) rfl rfl rfl (cB (cN (dT rfl))) (jD (v := .slice a_11 y_2.dat.recov.1.length c_12) rfl) <| jj (i := 6) ?_
  refine kQ rfl rfl rfl rfl (cB (cN (dT rfl))) (jI [] Tryz.call34 rfl (C_sameCells a_8 a_11 c_9 c_12 y_2.dat.recov.1 y_2.dat.recov.1 (by omega)) rfl (fun w hw => ⟨hw.see (i := 7) rfl, hw.see (i := 6) rfl⟩)) ?_
  rintro _ _ ⟨_, ⟨rfl, rfl⟩, rfl⟩
  refine ⟨(by simp), ?_⟩
  refine jg 7 rfl (by kernel_rfl) (NP.th (NP.th NP.body)) (by kernel_rfl) (by kernel_rfl) rfl rfl rfl (cB (cN (dT rfl))) (jp rfl) <| jL 8 rfl (ji (v := .bool (!(decide (y_2.dat.recov.1 = y_2.dat.recov.1)))) (cB (cN (dT rfl))) rfl) <| jL 9 rfl (jD (v := .bool (!(decide (y_2.dat.recov.1 = y_2.dat.recov.1)))) rfl) <| kK 10 rfl (by kernel_rfl) (NP.th (NP.th NP.body)) (by kernel_rfl) (by kernel_rfl) (by kernel_rfl) rfl rfl rfl (cB (cN (dT rfl))) (jO 3 (vs := [.slice y_2.a y_2.l.length y_2.c, str y_2.jt, iv y_2.js]) rfl rfl ke kd rfl rfl) <| kK 12 rfl (by kernel_rfl) (NP.th (NP.th NP.body)) (by kernel_rfl) (by kernel_rfl) (by kernel_rfl) rfl rfl rfl (cB (cN (dT rfl))) (jO 3 (vs := [.slice y_2.a y_2.l.length y_2.c, str y_2.jt, iv y_2.js]) rfl rfl ke kd rfl rfl) <| jj (i := 11) ?_
  refine kQ rfl rfl rfl rfl (cB (cN (dT rfl))) (jI [] Tryz.call47 rfl (Y_implDiskOk y_2 hd_3.z (by have h_ := (hd_3.l).l0; simpa only [DX.dat, List.length_map] using h_)) rfl (fun w hw => hw.seeRows 9 rfl)) ?_
  rintro _ _ ⟨_, ⟨rfl, rfl⟩, rfl⟩
  refine ⟨(by simp), ?_⟩
  refine jj (i := 13) ?_
  refine kQ rfl rfl rfl rfl (cB (cN (dT rfl))) (jI [] Tryz.call42 rfl (Y_specDiskOk y_2 hd_3.z (by have h_ := (hd_3.l).l0; simpa only [DX.dat, List.length_map] using h_)) rfl (fun w hw => hw.seeRows 9 rfl)) ?_
  rintro _ _ ⟨_, ⟨rfl, rfl⟩, rfl⟩
  refine ⟨(by simp), ?_⟩
  refine jg 14 rfl (by kernel_rfl) (NP.th (NP.th NP.body)) (by kernel_rfl) (by kernel_rfl) rfl rfl rfl (cB (cN (dT rfl))) (PO.neqB gJ rfl rfl) <| jL 15 rfl (ji (v := .bool (!(decide ((diskOk y_2.dat) = (diskOk y_2.dat))))) (cB (cN (dT rfl))) rfl) <| jL 16 rfl (jD (v := .bool (!(decide ((diskOk y_2.dat) = (diskOk y_2.dat))))) rfl) <| kK 17 rfl (by kernel_rfl) (NP.th (NP.th NP.body)) (by kernel_rfl) (by kernel_rfl) (by kernel_rfl) rfl rfl rfl (cB (cN (dT rfl))) (jO 3 (vs := [.slice y_2.a y_2.l.length y_2.c, str y_2.jt, iv y_2.js]) rfl rfl ke kd rfl rfl) <| kK 19 rfl (by kernel_rfl) (NP.th (NP.th NP.body)) (by kernel_rfl) (by kernel_rfl) (by kernel_rfl) rfl rfl rfl (cB (cN (dT rfl))) (jO 3 (vs := [.slice y_2.a y_2.l.length y_2.c, str y_2.jt, iv y_2.js]) rfl rfl ke kd rfl rfl) <| jj (i := 18) ?_
  refine kQ rfl rfl rfl rfl (cB (cN (dT rfl))) (jI [] Tryz.call48 rfl (Y_iBest y_2 hd_3.z (by have h_ := (hd_3.l).l0; simpa only [DX.dat, List.length_map] using h_)) rfl (fun w hw => hw.seeRows 9 rfl)) ?_
  rintro _ _ ⟨_, ⟨rfl, rfl⟩, rfl⟩
  refine ⟨(by simp), ?_⟩
  refine jj (i := 20) ?_
  refine kQ rfl rfl rfl rfl (cB (cN (dT rfl))) (jI [] Tryz.call49 rfl (Y_sBest y_2 hd_3.z (by have h_ := (hd_3.l).l0; simpa only [DX.dat, List.length_map] using h_)) rfl (fun w hw => hw.seeRows 9 rfl)) ?_
  rintro _ _ ⟨_, ⟨rfl, rfl⟩, rfl⟩
  refine ⟨(by simp), ?_⟩
  refine jg 21 rfl (by kernel_rfl) (NP.th (NP.th NP.body)) (by kernel_rfl) (by kernel_rfl) rfl rfl rfl (cB (cN (dT rfl))) (kS rfl rfl) <| jL 22 rfl (ji (v := .bool (!(decide ((bestD y_2.dat) = (bestD y_2.dat))))) (cB (cN (dT rfl))) rfl) <| jL 23 rfl (jD (v := .bool (!(decide ((bestD y_2.dat) = (bestD y_2.dat))))) rfl) <| kK 24 rfl (by kernel_rfl) (NP.th (NP.th NP.body)) (by kernel_rfl) (by kernel_rfl) (by kernel_rfl) rfl rfl rfl (cB (cN (dT rfl))) (jO 1 (vs := [.slice y_20.a y_20.l.length y_20.c, str y_20.jt, iv y_20.js]) rfl rfl ke kd rfl rfl) <| kK 25 rfl (by kernel_rfl) (NP.th (NP.th NP.body)) (by kernel_rfl) (by kernel_rfl) (by kernel_rfl) rfl rfl rfl (cB (cN (dT rfl))) (jO 2 (vs := [.slice y_14.a y_14.l.length y_14.c, str y_14.jt, iv y_14.js]) rfl rfl ke kd rfl rfl) <| jg 26 rfl (by kernel_rfl) (NP.th (NP.th NP.body)) (by kernel_rfl) (by kernel_rfl) rfl rfl rfl (cB (cN (dT rfl))) (jD (v := iv n_18) rfl) <| jj (i := 27) ?_
  refine kQ rfl rfl rfl rfl (cB (cN (dT rfl))) (jI [] Tryz.call44 rfl (Y_sFallD y_14 hd_15.z hd_15.l n_18) rfl (fun w hw => hw.seeRows 5 rfl)) ?_
  rintro _ _ ⟨_, ⟨y_34, hy_35, rfl, rfl⟩, rfl⟩
  have hz_36 : y_34.dat.okz := by rw [hy_35]; exact fall_okz hd_15.z n_18
  have hl_37 : y_34.dat.lim 1000000000 := by rw [hy_35]; exact fall_lim hd_15.l n_18
  refine ⟨(by simp), ?_⟩
  refine jj (i := 28) ?_
  refine kQ rfl rfl rfl rfl (cB (cN (dT rfl))) (jI [] Tryz.call39 rfl (Y_sameDisk y_20 y_34 hl_23) rfl (fun w hw => ⟨hw.seeRows 4 rfl, hw.seeRows 0 rfl⟩)) ?_
  rintro _ _ ⟨_, ⟨rfl, rfl⟩, rfl⟩
  refine ⟨(by simp), ?_⟩
  refine jg 29 rfl (by kernel_rfl) (NP.th (NP.th NP.body)) (by kernel_rfl) (by kernel_rfl) rfl rfl rfl (cB (cN (dT rfl))) (jp rfl) <| jL 30 rfl (ji (v := .bool (!(decide (y_20.dat = y_34.dat)))) (cB (cN (dT rfl))) rfl) <| jL 31 rfl (jD (v := .bool (!(decide (y_20.dat = y_34.dat)))) rfl) ?_
  have h_38 : y_20.dat = y_34.dat := (by simp only [hy_21, hy_26, hy_35])
  refine kK 32 rfl (by kernel_rfl) (NP.th (NP.th NP.body)) (by kernel_rfl) (by kernel_rfl) (by kernel_rfl) rfl rfl rfl (cB (cN (dT h_38))) (jO 0 (vs := [.slice y_25.a y_25.l.length y_25.c, str y_25.jt, iv y_25.js]) rfl rfl ke kd rfl rfl) <| kK 33 rfl (by kernel_rfl) (NP.th (NP.th NP.body)) (by kernel_rfl) (by kernel_rfl) (by kernel_rfl) rfl rfl rfl (cB (cN (dT h_38))) (jO 2 (vs := [.slice y_14.a y_14.l.length y_14.c, str y_14.jt, iv y_14.js]) rfl rfl ke kd rfl rfl) <| jj (i := 34) ?_
  refine kQ rfl rfl rfl rfl (cB (cN (dT h_38))) (jI [] Tryz.call18 rfl (Y_sClean y_14 hd_15.z hd_15.l) rfl (fun w hw => hw.seeRows 6 rfl)) ?_
  rintro _ _ ⟨_, ⟨y_43, hy_44, rfl, rfl⟩, rfl⟩
  have hz_45 : y_43.dat.okz := by rw [hy_44]; exact clean_okz hd_15.z
  have hl_46 : y_43.dat.lim 1000000000 := by rw [hy_44]; exact clean_lim hd_15.l
  refine ⟨(by simp), ?_⟩
  refine jj (i := 35) ?_
  refine kQ rfl rfl rfl rfl (cB (cN (dT h_38))) (jI [] Tryz.call39 rfl (Y_sameDisk y_25 y_43 hl_28) rfl (fun w hw => ⟨hw.seeRows 3 rfl, hw.seeRows 0 rfl⟩)) ?_
  rintro _ _ ⟨_, ⟨rfl, rfl⟩, rfl⟩
  refine ⟨(by simp), ?_⟩
  refine jg 36 rfl (by kernel_rfl) (NP.th (NP.th NP.body)) (by kernel_rfl) (by kernel_rfl) rfl rfl rfl (cB (cN (dT h_38))) (jp rfl) <| jL 37 rfl (ji (v := .bool (!(decide (y_25.dat = y_43.dat)))) (cB (cN (dT h_38))) rfl) <| kI (by kernel_rfl) <| jB ?_
  have h_47 : y_25.dat = y_43.dat := (by simp only [hy_21, hy_26, hy_35, hy_44])
  refine jR (cB (cN (dT h_47))) <| jT <| jB <| jC <| jF <| jA (jD (v := .slice pa p.length pc) rfl) ?_
  refine jH rfl (jI [] Tryz.call50 rfl (D_dSameDisk pa pc p (by omega)) rfl (fun w hw => hw.seeOut_ hs_pa nM)) ?_
  rintro _ _ ⟨_, ⟨y_48, z_50, hd_49, hd_51, rfl, rfl⟩, rfl⟩
  refine jA (jD (v := .tuple #[.agg #[.slice y_48.a y_48.l.length y_48.c, str y_48.jt, iv y_48.js], .agg #[.slice z_50.a z_50.l.length z_50.c, str z_50.jt, iv z_50.js]]) rfl) <| jA (je (v := .agg #[.slice y_48.a y_48.l.length y_48.c, str y_48.jt, iv y_48.js]) rfl rfl) <| jA (je (v := .agg #[.slice z_50.a z_50.l.length z_50.c, str z_50.jt, iv z_50.js]) rfl rfl) ?_
  refine jH rfl (jo (z := .agg #[.slice none 0 0, str [], iv 0]) (cs := [.slice none 0 0, str [], iv 0]) ko rfl) ?_
  rintro _ _ ⟨b_53, rfl, rfl⟩
  refine jH rfl (jo (z := .agg #[.slice none 0 0, str [], iv 0]) (cs := [.slice none 0 0, str [], iv 0]) ko rfl) ?_
  rintro _ _ ⟨b_54, rfl, rfl⟩
  refine jH rfl (ja 1 (vs := [.slice y_48.a y_48.l.length y_48.c, str y_48.jt, iv y_48.js]) (cs' := [.slice y_48.a y_48.l.length y_48.c, str y_48.jt, iv y_48.js]) rfl rfl rfl rfl kd rfl rfl (lb rfl) rfl) ?_
  rintro _ _ rfl
  refine jH rfl (ja 0 (vs := [.slice z_50.a z_50.l.length z_50.c, str z_50.jt, iv z_50.js]) (cs' := [.slice z_50.a z_50.l.length z_50.c, str z_50.jt, iv z_50.js]) rfl rfl rfl rfl kd rfl rfl (lb rfl) rfl) ?_
  rintro _ _ rfl
  refine jE <| jB <| jC <| jF <| jA (jD (v := .slice pa p.length pc) rfl) ?_
  refine jH rfl (jI [] Tryz.call51 rfl (D_dDiskNew pa pc p (by omega)) rfl (fun w hw => hw.seeOut_ hs_pa nM)) ?_
  rintro _ _ ⟨_, ⟨l_55a, l_55c, l_55, f_56, rfl, rfl⟩, rfl⟩
  have hO1_ := f_56.1
  refine jA (jG (v := .slice l_55a l_55.length l_55c) rfl) <| jE <| jB <| jC <| jF <| jA (jD (v := .slice l_55a l_55.length l_55c) rfl) ?_
  refine jH rfl (jI [] Tryz.call26 rfl (Y_implDiskNew l_55a l_55c l_55 (by first | omega | simp)) rfl (fun w hw => hw.see (i := 0) rfl)) ?_
  rintro _ _ ⟨_, ⟨d_58, hd_59, rfl, rfl⟩, rfl⟩
  have hd_60 : Drawn2 d_58 := drawn_new hd_59 f_56
  have hj_61 := hd_60.j
  refine jH rfl (jo (z := .agg #[.slice none 0 0, str [], iv 0]) (cs := [.slice none 0 0, str [], iv 0]) ko rfl) ?_
  rintro _ _ ⟨b_62, rfl, rfl⟩
  refine jH rfl (ja 0 (vs := [.slice d_58.a d_58.l.length d_58.c, str d_58.jt, iv d_58.js]) (cs' := [.slice d_58.a d_58.l.length d_58.c, str d_58.jt, iv d_58.js]) rfl rfl rfl rfl kd rfl rfl (lb rfl) rfl) ?_
  rintro _ _ rfl
  refine jE <| jB <| jC <| jF <| jK (jO 0 (vs := [.slice d_58.a d_58.l.length d_58.c, str d_58.jt, iv d_58.js]) rfl rfl ke kd rfl rfl) ?_
  refine jH rfl (jI [] Tryz.call33 rfl (Y_iRecov d_58 hd_60.z hd_60.l) rfl (fun w hw => ⟨hw.seeRows 1 rfl, hw.hex hlow hpre.2⟩)) ?_
  rintro _ _ ⟨_, ⟨a_63, c_64, rfl, rfl⟩, rfl⟩
  have hrn_65 := recov_len0 d_58.dat
  refine jA (jD (v := .tuple #[.slice a_63 d_58.dat.recov.1.length c_64, iv d_58.dat.recov.2]) rfl) <| jA (je (v := .slice a_63 d_58.dat.recov.1.length c_64) rfl rfl) <| jA (je (v := iv d_58.dat.recov.2) rfl rfl) <| jA (jG (v := .slice a_63 d_58.dat.recov.1.length c_64) rfl) <| jA (jG (v := iv d_58.dat.recov.2) rfl) <| jE <| jB <| jC <| jC <| kJ [bk b_62 31 [.slice d_58.a d_58.l.length d_58.c, str d_58.jt, iv d_58.js], bk b_54 31 [.slice z_50.a z_50.l.length z_50.c, str z_50.jt, iv z_50.js], bk b_53 31 [.slice y_48.a y_48.l.length y_48.c, str y_48.jt, iv y_48.js]] 1000 mixed (by simp) ?_
  refine jw 0 rfl (jO 2 (vs := [.slice y_48.a y_48.l.length y_48.c, str y_48.jt, iv y_48.js]) rfl rfl ke kd rfl rfl) <| jw 1 rfl (jO 1 (vs := [.slice z_50.a z_50.l.length z_50.c, str z_50.jt, iv z_50.js]) rfl rfl ke kd rfl rfl) <| jw 3 rfl (jO 2 (vs := [.slice y_48.a y_48.l.length y_48.c, str y_48.jt, iv y_48.js]) rfl rfl ke kd rfl rfl) <| jw 4 rfl (jO 1 (vs := [.slice z_50.a z_50.l.length z_50.c, str z_50.jt, iv z_50.js]) rfl rfl ke kd rfl rfl) <| jj (i := 2) ?_
  refine jz rfl rfl (jI [] Tryz.call52 rfl (Y_iSameDisk y_48 z_50 hd_49.l) rfl (fun w hw => ⟨hw.seeRows 6 rfl, hw.seeRows 7 rfl⟩)) ?_
  rintro _ _ ⟨_, ⟨rfl, rfl⟩, rfl⟩
  refine ⟨(by simp), ?_⟩
  refine jj (i := 5) ?_
  refine jz rfl rfl (jI [] Tryz.call39 rfl (Y_sameDisk y_48 z_50 hd_49.l) rfl (fun w hw => ⟨hw.seeRows 6 rfl, hw.seeRows 7 rfl⟩)) ?_
  rintro _ _ ⟨_, ⟨rfl, rfl⟩, rfl⟩
  refine ⟨(by simp), ?_⟩
  refine jL 6 rfl (PO.neqB gJ rfl rfl) <| jL 7 rfl (jD (v := .bool (!(decide ((decide (y_48.dat = z_50.dat)) = (decide (y_48.dat = z_50.dat)))))) rfl) <| kK 8 rfl (by kernel_rfl) (NP.th (NP.th NP.body)) (by kernel_rfl) (by kernel_rfl) (by kernel_rfl) rfl rfl rfl (cB (cN (dT rfl))) (jO 0 (vs := [.slice d_58.a d_58.l.length d_58.c, str d_58.jt, iv d_58.js]) rfl rfl ke kd rfl rfl) <| jg 9 rfl (by kernel_rfl) (NP.th (NP.th NP.body)) (by kernel_rfl) (by kernel_rfl) rfl rfl rfl (cB (cN (dT rfl))) (jD (v := .slice l_55a l_55.length l_55c) rfl) <| jj (i := 10) ?_
  refine kQ rfl rfl rfl rfl (cB (cN (dT rfl))) (jI [] Tryz.call40 rfl (Y_specDiskNew l_55a l_55c l_55 (by first | omega | simp)) rfl (fun w hw => hw.see (i := 3) rfl)) ?_
  rintro _ _ ⟨_, ⟨d_70, hd_71, rfl, rfl⟩, rfl⟩
  have hd_72 : Drawn2 d_70 := drawn_new hd_71 f_56
  have hj_73 := hd_72.j
  refine ⟨(by simp), ?_⟩
  refine jj (i := 11) ?_
  refine kQ rfl rfl rfl rfl (cB (cN (dT rfl))) (jI [] Tryz.call39 rfl (Y_sameDisk d_58 d_70 hd_60.l) rfl (fun w hw => ⟨hw.seeRows 3 rfl, hw.seeRows 0 rfl⟩)) ?_
  rintro _ _ ⟨_, ⟨rfl, rfl⟩, rfl⟩
  refine ⟨(by simp), ?_⟩
  refine jg 12 rfl (by kernel_rfl) (NP.th (NP.th NP.body)) (by kernel_rfl) (by kernel_rfl) rfl rfl rfl (cB (cN (dT rfl))) (jp rfl) <| jL 13 rfl (ji (v := .bool (!(decide (d_58.dat = d_70.dat)))) (cB (cN (dT rfl))) rfl) <| jL 14 rfl (jD (v := .bool (!(decide (d_58.dat = d_70.dat)))) rfl) ?_
  have h_74 : d_58.dat = d_70.dat := (by simp only [hy_21, hy_26, hy_35, hy_44, hd_59, hd_71])
  refine jg 15 rfl (by kernel_rfl) (NP.th (NP.th NP.body)) (by kernel_rfl) (by kernel_rfl) rfl rfl rfl (cB (cN (dT h_74))) (jD (v := .slice l_55a l_55.length l_55c) rfl) <| jj (i := 16) ?_
  refine kQ rfl rfl rfl rfl (cB (cN (dT h_74))) (jI [] Tryz.call53 rfl (Y_specStoreOk l_55a l_55c l_55 (f_56.okC (by decide) (by decide))) rfl (fun w hw => hw.see (i := 4) rfl)) ?_
  rintro _ _ ⟨_, ⟨rfl, rfl⟩, rfl⟩
  refine ⟨(by simp), ?_⟩
  refine jg 17 rfl (by kernel_rfl) (NP.th (NP.th NP.body)) (by kernel_rfl) (by kernel_rfl) rfl rfl rfl (cB (cN (dT h_74))) (jD (v := .bool (storeOk l_55)) rfl) ?_
  rcases Bool.eq_false_or_eq_true (storeOk l_55) with h_75 | h_75
  · have hnf := (new_full _ h_75).rec_
    refine jg 18 rfl (by kernel_rfl) (NP.th (NP.th NP.body)) (by kernel_rfl) (by kernel_rfl) rfl rfl rfl (cB h_75) (jD (v := .slice a_63 d_58.dat.recov.1.length c_64) rfl) <| jg 19 rfl (by kernel_rfl) (NP.th (NP.th NP.body)) (by kernel_rfl) (by kernel_rfl) rfl rfl rfl (cB h_75) (jD (v := .slice l_55a l_55.length l_55c) rfl) <| jj (i := 20) ?_
    refine kQ rfl rfl rfl rfl (cB h_75) (jI [] Tryz.call34 rfl (C_sameCells a_63 l_55a c_64 l_55c d_58.dat.recov.1 l_55 (by omega)) rfl (fun w hw => ⟨hw.see (i := 1) rfl, hw.see (i := 4) rfl⟩)) ?_
    rintro _ _ ⟨_, ⟨rfl, rfl⟩, rfl⟩
    refine ⟨(by simp), ?_⟩
    refine jg 21 rfl (by kernel_rfl) (NP.th (NP.th NP.body)) (by kernel_rfl) (by kernel_rfl) rfl rfl rfl (cB h_75) (jp rfl) <| jg 22 rfl (by kernel_rfl) (NP.th (NP.th NP.body)) (by kernel_rfl) (by kernel_rfl) rfl rfl rfl (cB h_75) (jD (v := .bool (!(decide (d_58.dat.recov.1 = l_55)))) rfl) ?_
    have h_76 : d_58.dat.recov.1 = l_55 := (by simp only [hy_21, hy_26, hy_35, hy_44, hd_59, hd_71, hnf])
    refine jg 23 rfl (by kernel_rfl) (NP.th (NP.th NP.body)) (by kernel_rfl) (by kernel_rfl) rfl rfl rfl (cB (cN (dT h_76))) (jD (v := iv d_58.dat.recov.2) rfl) <| jg 24 rfl (by kernel_rfl) (NP.th (NP.th NP.body)) (by kernel_rfl) (by kernel_rfl) rfl rfl rfl (cB (cN (dT h_76))) (kS rfl rfl) <| jg 25 rfl (by kernel_rfl) (NP.th (NP.th NP.body)) (by kernel_rfl) (by kernel_rfl) rfl rfl rfl (cB h_75) (ji (v := .bool (!(decide (d_58.dat.recov.2 = 0)))) (cB (cN (dT h_76))) rfl) <| jg 26 rfl (by kernel_rfl) (NP.th (NP.th NP.body)) (by kernel_rfl) (by kernel_rfl) rfl rfl rfl (cB (cN (dT h_74))) (jh (v := .bool (!(decide (d_58.dat.recov.2 = 0)))) (cB h_75) rfl) <| jL 27 rfl (ji (v := .bool (!(decide (d_58.dat.recov.2 = 0)))) (cB (cN (dT h_74))) rfl) <| kI (by kernel_rfl) <| jB ?_
    have h_77 : d_58.dat.recov.2 = 0 := (by simp only [hy_21, hy_26, hy_35, hy_44, hd_59, hd_71, hnf])
    refine jR (cB (cN (dT h_77))) <| jT <| jB <| jC <| jC <| jF <| jK (jO 15 (vs := [.slice y_14.a y_14.l.length y_14.c, str y_14.jt, iv y_14.js]) rfl rfl ke kd rfl rfl) ?_
    refine jH rfl (jI [] Tryz.call42 rfl (Y_specDiskOk y_14 hd_15.z (by have h_ := (hd_15.l).l0; simpa only [DX.dat, List.length_map] using h_)) rfl (fun w hw => hw.seeRows 16 rfl)) ?_
    rintro _ _ ⟨_, ⟨rfl, rfl⟩, rfl⟩
    refine jA (jp rfl) <| jE <| jB ?_
    rcases Bool.eq_false_or_eq_true (diskOk y_14.dat) with h_78 | h_78
    · have hcf := clean_full h_78
      have hfk := fall_ok h_78
      refine jR (cB (cN h_78)) <| jT <| jB <| jC <| jF <| jK (jO 15 (vs := [.slice y_14.a y_14.l.length y_14.c, str y_14.jt, iv y_14.js]) rfl rfl ke kd rfl rfl) ?_
      refine jH rfl (jI [] Tryz.call43 rfl (Y_sRecov y_14 hd_15.z hd_15.l) rfl (fun w hw => hw.seeRows 16 rfl)) ?_
      rintro _ _ ⟨_, ⟨a_79, c_80, rfl, rfl⟩, rfl⟩
      have hrn_81 := recov_len0 y_14.dat
      refine jA (jD (v := .tuple #[.slice a_79 y_14.dat.recov.1.length c_80, iv y_14.dat.recov.2]) rfl) <| jA (je (v := .slice a_79 y_14.dat.recov.1.length c_80) rfl rfl) <| jA (je (v := iv y_14.dat.recov.2) rfl rfl) <| jA (jG (v := .slice a_79 y_14.dat.recov.1.length c_80) rfl) <| jA (jG (v := iv y_14.dat.recov.2) rfl) <| jE <| jB <| jC <| jF <| jK (jO 12 (vs := [.slice y_25.a y_25.l.length y_25.c, str y_25.jt, iv y_25.js]) rfl rfl ke kd rfl rfl) ?_
      refine jH rfl (jI [] Tryz.call43 rfl (Y_sRecov y_25 hz_27 hl_28) rfl (fun w hw => hw.seeRows 13 rfl)) ?_
      rintro _ _ ⟨_, ⟨a_82, c_83, rfl, rfl⟩, rfl⟩
      have hrn_84 := recov_len0 y_25.dat
      refine jA (jD (v := .tuple #[.slice a_82 y_25.dat.recov.1.length c_83, iv y_25.dat.recov.2]) rfl) <| jA (je (v := .slice a_82 y_25.dat.recov.1.length c_83) rfl rfl) <| jA (je (v := iv y_25.dat.recov.2) rfl rfl) <| jA (jG (v := .slice a_82 y_25.dat.recov.1.length c_83) rfl) <| jA (jG (v := iv y_25.dat.recov.2) rfl) <| jE <| jB <| jC ?_
      have hff : diskOk y_20.dat = true := by simp only [hy_21, hy_26, hy_35, hy_44, hd_59, hd_71]; exact hfk _
      refine jF <| jA (jD (v := .slice a_79 y_14.dat.recov.1.length c_80) rfl) <| jA (jD (v := .slice a_82 y_25.dat.recov.1.length c_83) rfl) ?_
      refine jH rfl (jI [] Tryz.call34 rfl (C_sameCells a_79 a_82 c_80 c_83 y_14.dat.recov.1 y_25.dat.recov.1 (by omega)) rfl (fun w hw => ⟨hw.see (i := 1) rfl, hw.see (i := 0) rfl⟩)) ?_
      rintro _ _ ⟨_, ⟨rfl, rfl⟩, rfl⟩
      refine jA (jD (v := .bool (decide (y_14.dat.recov.1 = y_25.dat.recov.1))) rfl) ?_
      have h_85 : y_14.dat.recov.1 = y_25.dat.recov.1 := (by simp only [hy_21, hy_26, hy_35, hy_44, hd_59, hd_71, hcf.rec_])
      refine jM rfl rfl rfl (cB (dT h_85)) (jP (jU (jD (v := iv y_14.dat.recov.2) rfl))) ?_
      rintro _ _ ⟨rfl, rfl⟩
      refine jM rfl rfl rfl (cB (dT h_85)) (jP (jU (jD (v := iv y_25.dat.recov.2) rfl))) ?_
      rintro _ _ ⟨rfl, rfl⟩
      refine jM rfl rfl rfl (cB (dT h_85)) (jP (jU (kO rfl rfl))) ?_
      rintro _ _ ⟨rfl, rfl⟩
      refine jA (jh (v := .bool (decide (y_14.dat.recov.2 = y_25.dat.recov.2))) (cB (dT h_85)) rfl) <| jA (jD (v := .bool (decide (y_14.dat.recov.2 = y_25.dat.recov.2))) rfl) ?_
      have h_86 : y_14.dat.recov.2 = y_25.dat.recov.2 := (by simp only [hy_21, hy_26, hy_35, hy_44, hd_59, hd_71, hcf.rec_])
      refine jM rfl rfl rfl (cB (dT h_86)) (jP (jU (jQ fo31_1 rfl))) ?_
      rintro _ _ ⟨rfl, rfl⟩
      refine jM rfl rfl rfl (cB (dT h_86)) (jP (jU (jQ fo29_1 rfl))) ?_
      rintro _ _ ⟨rfl, rfl⟩
      refine jM rfl rfl rfl (cB (dT h_86)) (jP (jZ 13 (v := iv y_25.js) rfl rfl kq rfl)) ?_
      rintro _ _ ⟨rfl, rfl⟩
      refine jM rfl rfl rfl (cB (dT h_86)) (jP (jU (jQ fo31_1 rfl))) ?_
      rintro _ _ ⟨rfl, rfl⟩
      refine jM rfl rfl rfl (cB (dT h_86)) (jP (jU (jQ fo29_0 rfl))) ?_
      rintro _ _ ⟨rfl, rfl⟩
      refine jM rfl rfl rfl (cB (dT h_86)) (jP (jZ 13 (v := str y_25.jt) rfl rfl ki rfl)) ?_
      rintro _ _ ⟨rfl, rfl⟩
      refine jM rfl rfl rfl (cB (dT h_86)) (jP (jU (kF kg rfl))) ?_
      rintro _ _ ⟨rfl, rfl⟩
      refine jM rfl rfl rfl (cB (dT h_86)) (jP (jU (kO rfl rfl))) ?_
      rintro _ _ ⟨rfl, rfl⟩
      refine jA (jh (v := .bool (decide (y_25.js = (y_25.jt.length : Int)))) (cB (dT h_86)) rfl) <| jA (jD (v := .bool (decide (y_25.js = (y_25.jt.length : Int)))) rfl) ?_
      have h_87 : y_25.js = (y_25.jt.length : Int) := (by have h_ := hcf.sure; have h2_ := congrArg DD.js hy_26; have h3_ := congrArg DD.jt hy_26; show y_25.dat.js = ((y_25.dat.jt.length : Nat) : Int); rw [h2_, h3_]; exact h_)
      refine jM rfl rfl rfl (cB (dT h_87)) (jP (jO 15 (vs := [.slice y_20.a y_20.l.length y_20.c, str y_20.jt, iv y_20.js]) rfl rfl ke kd rfl rfl)) ?_
      rintro _ _ ⟨rfl, rfl⟩
      refine jM rfl rfl rfl (cB (dT h_87)) (jI [] Tryz.call42 rfl (Y_specDiskOk y_20 hz_22 (by have h_ := (hl_23).l0; simpa only [DX.dat, List.length_map] using h_)) rfl (fun w hw => hw.seeRows 16 rfl)) ?_
      rintro _ _ ⟨_, ⟨rfl, rfl⟩, rfl⟩
      refine jA (jh (v := .bool (diskOk y_20.dat)) (cB (dT h_87)) rfl) <| jA (jD (v := .bool (diskOk y_20.dat)) rfl) <| jM rfl rfl rfl (cB hff) (jI [] Tryz.call26 rfl (Y_implDiskNew none 0 [] (by first | omega | simp)) rfl (fun w hw => sees_nil _)) ?_
      rintro _ _ ⟨_, ⟨d_88, hd_89, rfl, rfl⟩, rfl⟩
      have hd_90 : Drawn2 d_88 := drawn_new hd_89 ⟨by simp, fun c hc => by cases hc⟩
      have hj_91 := hd_90.j
      refine jM rfl rfl rfl (cB hff) (jI [] Tryz.call48 rfl (Y_iBest d_88 hd_90.z (by have h_ := (hd_90.l).l0; simpa only [DX.dat, List.length_map] using h_)) rfl (fun w hw => hw.seeRows 0 rfl)) ?_
      rintro _ _ ⟨_, ⟨rfl, rfl⟩, rfl⟩
      refine jM rfl rfl rfl (cB hff) (jP (jU (kO rfl rfl))) ?_
      rintro _ _ ⟨rfl, rfl⟩
      refine jA (jh (v := .bool (decide ((bestD d_88.dat) = 0))) (cB hff) rfl) <| jA (jG (v := .bool (decide ((bestD d_88.dat) = 0))) rfl) <| jE <| jB <| jN ?_
      have h_92 : (bestD d_88.dat) = 0 := (by simp only [hy_21, hy_26, hy_35, hy_44, hd_59, hd_71, hd_89]; exact best_new)
      refine jV (.inl rfl) rfl (jJ (v := .bool true) (cB (dT h_92))) (List.nil_sublist _) ?_
      exact ⟨rfl, rfl⟩
    have hcn := clean_not h_78
    have hfn := fall_not h_78
    refine jW (cB (cN h_78)) <| jC <| jF <| jK (jO 13 (vs := [.slice y_20.a y_20.l.length y_20.c, str y_20.jt, iv y_20.js]) rfl rfl ke kd rfl rfl) <| jK (jO 15 (vs := [.slice y_14.a y_14.l.length y_14.c, str y_14.jt, iv y_14.js]) rfl rfl ke kd rfl rfl) ?_
    refine jH rfl (jI [] Tryz.call39 rfl (Y_sameDisk y_20 y_14 hl_23) rfl (fun w hw => ⟨hw.seeRows 14 rfl, hw.seeRows 16 rfl⟩)) ?_
    rintro _ _ ⟨_, ⟨rfl, rfl⟩, rfl⟩
    refine jA (jD (v := .bool (decide (y_20.dat = y_14.dat))) rfl) ?_
    have h_93 : y_20.dat = y_14.dat := (by simp only [hy_21, hy_26, hy_35, hy_44, hd_59, hd_71, hcn, hfn])
    refine jM rfl rfl rfl (cB (dT h_93)) (jP (jO 11 (vs := [.slice y_25.a y_25.l.length y_25.c, str y_25.jt, iv y_25.js]) rfl rfl ke kd rfl rfl)) ?_
    rintro _ _ ⟨rfl, rfl⟩
    refine jM rfl rfl rfl (cB (dT h_93)) (jP (jO 15 (vs := [.slice y_14.a y_14.l.length y_14.c, str y_14.jt, iv y_14.js]) rfl rfl ke kd rfl rfl)) ?_
    rintro _ _ ⟨rfl, rfl⟩
    refine jM rfl rfl rfl (cB (dT h_93)) (jI [] Tryz.call39 rfl (Y_sameDisk y_25 y_14 hl_28) rfl (fun w hw => ⟨hw.seeRows 12 rfl, hw.seeRows 16 rfl⟩)) ?_
    rintro _ _ ⟨_, ⟨rfl, rfl⟩, rfl⟩
    refine jA (jh (v := .bool (decide (y_25.dat = y_14.dat))) (cB (dT h_93)) rfl) <| jA (jD (v := .bool (decide (y_25.dat = y_14.dat))) rfl) ?_
    have h_94 : y_25.dat = y_14.dat := (by simp only [hy_21, hy_26, hy_35, hy_44, hd_59, hd_71, hcn, hfn])
    refine jM rfl rfl rfl (cB (dT h_94)) (jI [] Tryz.call26 rfl (Y_implDiskNew none 0 [] (by first | omega | simp)) rfl (fun w hw => sees_nil _)) ?_
    rintro _ _ ⟨_, ⟨d_95, hd_96, rfl, rfl⟩, rfl⟩
    have hd_97 : Drawn2 d_95 := drawn_new hd_96 ⟨by simp, fun c hc => by cases hc⟩
    have hj_98 := hd_97.j
    refine jM rfl rfl rfl (cB (dT h_94)) (jI [] Tryz.call48 rfl (Y_iBest d_95 hd_97.z (by have h_ := (hd_97.l).l0; simpa only [DX.dat, List.length_map] using h_)) rfl (fun w hw => hw.seeRows 0 rfl)) ?_
    rintro _ _ ⟨_, ⟨rfl, rfl⟩, rfl⟩
    refine jM rfl rfl rfl (cB (dT h_94)) (jP (jU (kO rfl rfl))) ?_
    rintro _ _ ⟨rfl, rfl⟩
    refine jA (jh (v := .bool (decide ((bestD d_95.dat) = 0))) (cB (dT h_94)) rfl) <| jA (jG (v := .bool (decide ((bestD d_95.dat) = 0))) rfl) <| jE <| jB <| jN <| jX ?_
    have h_99 : (bestD d_95.dat) = 0 := (by simp only [hy_21, hy_26, hy_35, hy_44, hd_59, hd_71, hd_96]; exact best_new)
    refine jV (.inl rfl) rfl (jJ (v := .bool true) (cB (dT h_99))) (List.nil_sublist _) ?_
    exact ⟨rfl, rfl⟩
  refine jd 18 (b := false) rfl (by kernel_rfl) (NP.th (NP.th NP.body)) (by kernel_rfl) (by kernel_rfl) rfl rfl rfl (cB h_75) <| jd 19 (b := false) rfl (by kernel_rfl) (NP.th (NP.th NP.body)) (by kernel_rfl) (by kernel_rfl) rfl rfl rfl (cB h_75) <| jd 20 (b := false) rfl (by kernel_rfl) (NP.th (NP.th NP.body)) (by kernel_rfl) (by kernel_rfl) rfl rfl rfl (cB h_75) <| jd 21 (b := false) rfl (by kernel_rfl) (NP.th (NP.th NP.body)) (by kernel_rfl) (by kernel_rfl) rfl rfl rfl (cB h_75) <| jd 22 (b := false) rfl (by kernel_rfl) (NP.th (NP.th NP.body)) (by kernel_rfl) (by kernel_rfl) rfl rfl rfl (cB h_75) <| kE 23 rfl (by kernel_rfl) (NP.th (NP.th NP.body)) (by kernel_rfl) (by kernel_rfl) rfl rfl rfl rfl <| kE 24 rfl (by kernel_rfl) (NP.th (NP.th NP.body)) (by kernel_rfl) (by kernel_rfl) rfl rfl rfl rfl <| jd 25 (b := false) rfl (by kernel_rfl) (NP.th (NP.th NP.body)) (by kernel_rfl) (by kernel_rfl) rfl rfl rfl (cB h_75) <| jg 26 rfl (by kernel_rfl) (NP.th (NP.th NP.body)) (by kernel_rfl) (by kernel_rfl) rfl rfl rfl (cB (cN (dT h_74))) (ji (v := .bool false) (cB h_75) rfl) <| jL 27 rfl (ji (v := .bool false) (cB (cN (dT h_74))) rfl) ?_
  refine kI (by kernel_rfl) <| jB <| jR (cB rfl) <| jT <| jB <| jC <| jC <| jF <| jK (jO 15 (vs := [.slice y_14.a y_14.l.length y_14.c, str y_14.jt, iv y_14.js]) rfl rfl ke kd rfl rfl) ?_
  refine jH rfl (jI [] Tryz.call42 rfl (Y_specDiskOk y_14 hd_15.z (by have h_ := (hd_15.l).l0; simpa only [DX.dat, List.length_map] using h_)) rfl (fun w hw => hw.seeRows 16 rfl)) ?_
  rintro _ _ ⟨_, ⟨rfl, rfl⟩, rfl⟩
  refine jA (jp rfl) <| jE <| jB ?_
  rcases Bool.eq_false_or_eq_true (diskOk y_14.dat) with h_100 | h_100
  · have hcf := clean_full h_100
    have hfk := fall_ok h_100
    refine jR (cB (cN h_100)) <| jT <| jB <| jC <| jF <| jK (jO 15 (vs := [.slice y_14.a y_14.l.length y_14.c, str y_14.jt, iv y_14.js]) rfl rfl ke kd rfl rfl) ?_
    refine jH rfl (jI [] Tryz.call43 rfl (Y_sRecov y_14 hd_15.z hd_15.l) rfl (fun w hw => hw.seeRows 16 rfl)) ?_
    rintro _ _ ⟨_, ⟨a_101, c_102, rfl, rfl⟩, rfl⟩
    have hrn_103 := recov_len0 y_14.dat
    refine jA (jD (v := .tuple #[.slice a_101 y_14.dat.recov.1.length c_102, iv y_14.dat.recov.2]) rfl) <| jA (je (v := .slice a_101 y_14.dat.recov.1.length c_102) rfl rfl) <| jA (je (v := iv y_14.dat.recov.2) rfl rfl) <| jA (jG (v := .slice a_101 y_14.dat.recov.1.length c_102) rfl) <| jA (jG (v := iv y_14.dat.recov.2) rfl) <| jE <| jB <| jC <| jF <| jK (jO 12 (vs := [.slice y_25.a y_25.l.length y_25.c, str y_25.jt, iv y_25.js]) rfl rfl ke kd rfl rfl) ?_
    refine jH rfl (jI [] Tryz.call43 rfl (Y_sRecov y_25 hz_27 hl_28) rfl (fun w hw => hw.seeRows 13 rfl)) ?_
    rintro _ _ ⟨_, ⟨a_104, c_105, rfl, rfl⟩, rfl⟩
    have hrn_106 := recov_len0 y_25.dat
    refine jA (jD (v := .tuple #[.slice a_104 y_25.dat.recov.1.length c_105, iv y_25.dat.recov.2]) rfl) <| jA (je (v := .slice a_104 y_25.dat.recov.1.length c_105) rfl rfl) <| jA (je (v := iv y_25.dat.recov.2) rfl rfl) <| jA (jG (v := .slice a_104 y_25.dat.recov.1.length c_105) rfl) <| jA (jG (v := iv y_25.dat.recov.2) rfl) <| jE <| jB <| jC ?_
    have hff : diskOk y_20.dat = true := by simp only [hy_21, hy_26, hy_35, hy_44, hd_59, hd_71]; exact hfk _
    refine jF <| jA (jD (v := .slice a_101 y_14.dat.recov.1.length c_102) rfl) <| jA (jD (v := .slice a_104 y_25.dat.recov.1.length c_105) rfl) ?_
    refine jH rfl (jI [] Tryz.call34 rfl (C_sameCells a_101 a_104 c_102 c_105 y_14.dat.recov.1 y_25.dat.recov.1 (by omega)) rfl (fun w hw => ⟨hw.see (i := 1) rfl, hw.see (i := 0) rfl⟩)) ?_
    rintro _ _ ⟨_, ⟨rfl, rfl⟩, rfl⟩
    refine jA (jD (v := .bool (decide (y_14.dat.recov.1 = y_25.dat.recov.1))) rfl) ?_
    have h_107 : y_14.dat.recov.1 = y_25.dat.recov.1 := (by simp only [hy_21, hy_26, hy_35, hy_44, hd_59, hd_71, hcf.rec_])
    refine jM rfl rfl rfl (cB (dT h_107)) (jP (jU (jD (v := iv y_14.dat.recov.2) rfl))) ?_
    rintro _ _ ⟨rfl, rfl⟩
    refine jM rfl rfl rfl (cB (dT h_107)) (jP (jU (jD (v := iv y_25.dat.recov.2) rfl))) ?_
    rintro _ _ ⟨rfl, rfl⟩
    refine jM rfl rfl rfl (cB (dT h_107)) (jP (jU (kO rfl rfl))) ?_
    rintro _ _ ⟨rfl, rfl⟩
    refine jA (jh (v := .bool (decide (y_14.dat.recov.2 = y_25.dat.recov.2))) (cB (dT h_107)) rfl) <| jA (jD (v := .bool (decide (y_14.dat.recov.2 = y_25.dat.recov.2))) rfl) ?_
    have h_108 : y_14.dat.recov.2 = y_25.dat.recov.2 := (by simp only [hy_21, hy_26, hy_35, hy_44, hd_59, hd_71, hcf.rec_])
    refine jM rfl rfl rfl (cB (dT h_108)) (jP (jU (jQ fo31_1 rfl))) ?_
    rintro _ _ ⟨rfl, rfl⟩
    refine jM rfl rfl rfl (cB (dT h_108)) (jP (jU (jQ fo29_1 rfl))) ?_
    rintro _ _ ⟨rfl, rfl⟩
    refine jM rfl rfl rfl (cB (dT h_108)) (jP (jZ 13 (v := iv y_25.js) rfl rfl kq rfl)) ?_
    rintro _ _ ⟨rfl, rfl⟩
    refine jM rfl rfl rfl (cB (dT h_108)) (jP (jU (jQ fo31_1 rfl))) ?_
    rintro _ _ ⟨rfl, rfl⟩
    refine jM rfl rfl rfl (cB (dT h_108)) (jP (jU (jQ fo29_0 rfl))) ?_
    rintro _ _ ⟨rfl, rfl⟩
    refine jM rfl rfl rfl (cB (dT h_108)) (jP (jZ 13 (v := str y_25.jt) rfl rfl ki rfl)) ?_
    rintro _ _ ⟨rfl, rfl⟩
    refine jM rfl rfl rfl (cB (dT h_108)) (jP (jU (kF kg rfl))) ?_
    rintro _ _ ⟨rfl, rfl⟩
    refine jM rfl rfl rfl (cB (dT h_108)) (jP (jU (kO rfl rfl))) ?_
    rintro _ _ ⟨rfl, rfl⟩
    refine jA (jh (v := .bool (decide (y_25.js = (y_25.jt.length : Int)))) (cB (dT h_108)) rfl) <| jA (jD (v := .bool (decide (y_25.js = (y_25.jt.length : Int)))) rfl) ?_
    have h_109 : y_25.js = (y_25.jt.length : Int) := (by have h_ := hcf.sure; have h2_ := congrArg DD.js hy_26; have h3_ := congrArg DD.jt hy_26; show y_25.dat.js = ((y_25.dat.jt.length : Nat) : Int); rw [h2_, h3_]; exact h_)
    refine jM rfl rfl rfl (cB (dT h_109)) (jP (jO 15 (vs := [.slice y_20.a y_20.l.length y_20.c, str y_20.jt, iv y_20.js]) rfl rfl ke kd rfl rfl)) ?_
    rintro _ _ ⟨rfl, rfl⟩
    refine jM rfl rfl rfl (cB (dT h_109)) (jI [] Tryz.call42 rfl (Y_specDiskOk y_20 hz_22 (by have h_ := (hl_23).l0; simpa only [DX.dat, List.length_map] using h_)) rfl (fun w hw => hw.seeRows 16 rfl)) ?_
    rintro _ _ ⟨_, ⟨rfl, rfl⟩, rfl⟩
    refine jA (jh (v := .bool (diskOk y_20.dat)) (cB (dT h_109)) rfl) <| jA (jD (v := .bool (diskOk y_20.dat)) rfl) <| jM rfl rfl rfl (cB hff) (jI [] Tryz.call26 rfl (Y_implDiskNew none 0 [] (by first | omega | simp)) rfl (fun w hw => sees_nil _)) ?_
    rintro _ _ ⟨_, ⟨d_110, hd_111, rfl, rfl⟩, rfl⟩
    have hd_112 : Drawn2 d_110 := drawn_new hd_111 ⟨by simp, fun c hc => by cases hc⟩
    have hj_113 := hd_112.j
    refine jM rfl rfl rfl (cB hff) (jI [] Tryz.call48 rfl (Y_iBest d_110 hd_112.z (by have h_ := (hd_112.l).l0; simpa only [DX.dat, List.length_map] using h_)) rfl (fun w hw => hw.seeRows 0 rfl)) ?_
    rintro _ _ ⟨_, ⟨rfl, rfl⟩, rfl⟩
    refine jM rfl rfl rfl (cB hff) (jP (jU (kO rfl rfl))) ?_
    rintro _ _ ⟨rfl, rfl⟩
    refine jA (jh (v := .bool (decide ((bestD d_110.dat) = 0))) (cB hff) rfl) <| jA (jG (v := .bool (decide ((bestD d_110.dat) = 0))) rfl) <| jE <| jB <| jN ?_
    have h_114 : (bestD d_110.dat) = 0 := (by simp only [hy_21, hy_26, hy_35, hy_44, hd_59, hd_71, hd_111]; exact best_new)
    refine jV (.inl rfl) rfl (jJ (v := .bool true) (cB (dT h_114))) (List.nil_sublist _) ?_
    exact ⟨rfl, rfl⟩
  have hcn := clean_not h_100
  have hfn := fall_not h_100
  refine jW (cB (cN h_100)) <| jC <| jF <| jK (jO 13 (vs := [.slice y_20.a y_20.l.length y_20.c, str y_20.jt, iv y_20.js]) rfl rfl ke kd rfl rfl) <| jK (jO 15 (vs := [.slice y_14.a y_14.l.length y_14.c, str y_14.jt, iv y_14.js]) rfl rfl ke kd rfl rfl) ?_
  refine jH rfl (jI [] Tryz.call39 rfl (Y_sameDisk y_20 y_14 hl_23) rfl (fun w hw => ⟨hw.seeRows 14 rfl, hw.seeRows 16 rfl⟩)) ?_
  rintro _ _ ⟨_, ⟨rfl, rfl⟩, rfl⟩
  refine jA (jD (v := .bool (decide (y_20.dat = y_14.dat))) rfl) ?_
  have h_115 : y_20.dat = y_14.dat := (by simp only [hy_21, hy_26, hy_35, hy_44, hd_59, hd_71, hcn, hfn])
  refine jM rfl rfl rfl (cB (dT h_115)) (jP (jO 11 (vs := [.slice y_25.a y_25.l.length y_25.c, str y_25.jt, iv y_25.js]) rfl rfl ke kd rfl rfl)) ?_
  rintro _ _ ⟨rfl, rfl⟩
  refine jM rfl rfl rfl (cB (dT h_115)) (jP (jO 15 (vs := [.slice y_14.a y_14.l.length y_14.c, str y_14.jt, iv y_14.js]) rfl rfl ke kd rfl rfl)) ?_
  rintro _ _ ⟨rfl, rfl⟩
  refine jM rfl rfl rfl (cB (dT h_115)) (jI [] Tryz.call39 rfl (Y_sameDisk y_25 y_14 hl_28) rfl (fun w hw => ⟨hw.seeRows 12 rfl, hw.seeRows 16 rfl⟩)) ?_
  rintro _ _ ⟨_, ⟨rfl, rfl⟩, rfl⟩
  refine jA (jh (v := .bool (decide (y_25.dat = y_14.dat))) (cB (dT h_115)) rfl) <| jA (jD (v := .bool (decide (y_25.dat = y_14.dat))) rfl) ?_
  have h_116 : y_25.dat = y_14.dat := (by simp only [hy_21, hy_26, hy_35, hy_44, hd_59, hd_71, hcn, hfn])
  refine jM rfl rfl rfl (cB (dT h_116)) (jI [] Tryz.call26 rfl (Y_implDiskNew none 0 [] (by first | omega | simp)) rfl (fun w hw => sees_nil _)) ?_
  rintro _ _ ⟨_, ⟨d_117, hd_118, rfl, rfl⟩, rfl⟩
  have hd_119 : Drawn2 d_117 := drawn_new hd_118 ⟨by simp, fun c hc => by cases hc⟩
  have hj_120 := hd_119.j
  refine jM rfl rfl rfl (cB (dT h_116)) (jI [] Tryz.call48 rfl (Y_iBest d_117 hd_119.z (by have h_ := (hd_119.l).l0; simpa only [DX.dat, List.length_map] using h_)) rfl (fun w hw => hw.seeRows 0 rfl)) ?_
  rintro _ _ ⟨_, ⟨rfl, rfl⟩, rfl⟩
  refine jM rfl rfl rfl (cB (dT h_116)) (jP (jU (kO rfl rfl))) ?_
  rintro _ _ ⟨rfl, rfl⟩
  refine jA (jh (v := .bool (decide ((bestD d_117.dat) = 0))) (cB (dT h_116)) rfl) <| jA (jG (v := .bool (decide ((bestD d_117.dat) = 0))) rfl) <| jE <| jB <| jN <| jX ?_
  have h_121 : (bestD d_117.dat) = 0 := (by simp only [hy_21, hy_26, hy_35, hy_44, hd_59, hd_71, hd_118]; exact best_new)
  refine jV (.inl rfl) rfl (jJ (v := .bool true) (cB (dT h_121))) (List.nil_sublist _) ?_
  exact ⟨rfl, rfl⟩

end Go.Proofs.YtjncpgcccgdeiaaGreatDoor
