/-
  laws.FnFolds walked: it returns true.
-/
import Derived.Test.YtjncpgcccgdeiaaGreatDoorS62DRAWS
set_option linter.unusedSimpArgs false
set_option linter.unusedVariables false
set_option linter.unnecessarySimpa false
namespace Go.Proofs.YtjncpgcccgdeiaaGreatDoor
open Go Go.RowKit
attribute [local irreducible] JL JC JQ JO LO PO JA JX Ct

set_option maxRecDepth 8000 in
set_option maxHeartbeats 4000000 in
theorem L_Folds (pa : Option Addr) (pc : Nat) (p : Str) :
    Ct Tryz.prog 8 [.slice pa p.length pc] [] (fun w => Sees w (.slice pa p.length pc) 1 p.length (p.map encB) ∧ HexOk w) (fun v A' => v = .bool true ∧ A' = []) := by
  refine Ct.introL Tryz.func8 rfl Tryz.ntmps8 (lb rfl) fun w0 hpre hlow => ?_
  have hs_pa : Sees w0 _ _ _ _ := hpre.1
  refine jC <| jF <| jA (jG (v := .bool false) rfl) <| jE <| jB <| jC <| jC <| jF <| jA (jD (v := .slice pa p.length pc) rfl) ?_
  refine jH rfl (jI [] Tryz.call24 rfl (N_big pa pc p) rfl (fun _ _ => trivial)) ?_
  rintro _ _ ⟨_, ⟨rfl, rfl⟩, rfl⟩
  refine jE <| jB ?_
  by_cases h_1 : 1048576 < ((p.length : Nat) : Int)
  · refine jW (cB (dT h_1)) <| jC <| jF <| jA (jG (v := .bool true) rfl) <| jE <| jB <| jN <| jX <| jV (.inl rfl) rfl (jJ (v := .bool true) rfl) (List.nil_sublist _) ?_
    exact ⟨rfl, rfl⟩
  refine jR (cB (dF h_1)) <| jT <| jB <| jC <| jF <| jA (jD (v := .slice pa p.length pc) rfl) ?_
  refine jH rfl (jI [] Tryz.call37 rfl (D_dFolded pa pc p (by omega)) rfl (fun w hw => hw.seeOut_ hs_pa nM)) ?_
  rintro _ _ ⟨_, ⟨y_2, hd_3, rfl, rfl⟩, rfl⟩
  refine jH rfl (jo (z := .agg #[.slice none 0 0, str [], iv 0]) (cs := [.slice none 0 0, str [], iv 0]) ko rfl) ?_
  rintro _ _ ⟨b_7, rfl, rfl⟩
  refine jH rfl (ja 0 (vs := [.slice y_2.a y_2.l.length y_2.c, str y_2.jt, iv y_2.js]) (cs' := [.slice y_2.a y_2.l.length y_2.c, str y_2.jt, iv y_2.js]) rfl rfl rfl rfl kd rfl rfl (lb rfl) rfl) ?_
  rintro _ _ rfl
  refine jE <| jB <| jC <| jF <| jK (jO 0 (vs := [.slice y_2.a y_2.l.length y_2.c, str y_2.jt, iv y_2.js]) rfl rfl ke kd rfl rfl) ?_
  refine jH rfl (jI [] Tryz.call21 rfl (Y_iFoldB y_2 hd_3.z hd_3.l) rfl (fun w hw => ⟨hw.seeRows 1 rfl, hw.hex hlow hpre.2⟩)) ?_
  rintro _ _ ⟨_, ⟨y_8, hy_9, rfl, rfl⟩, rfl⟩
  have hz_10 : y_8.dat.okz := by rw [hy_9]; exact foldB_okz hd_3.z
  have hl_11 : y_8.dat.lim 1000000000 := by rw [hy_9]; exact foldB_lim hd_3.z hd_3.l (by decide)
  refine jA (jD (v := .tuple #[.agg #[.slice y_8.a y_8.l.length y_8.c, str y_8.jt, iv y_8.js], .bool ((y_2.dat.foldB).2)]) rfl) <| jA (je (v := .agg #[.slice y_8.a y_8.l.length y_8.c, str y_8.jt, iv y_8.js]) rfl rfl) <| jA (je (v := .bool ((y_2.dat.foldB).2)) rfl rfl) ?_
  refine jH rfl (jo (z := .agg #[.slice none 0 0, str [], iv 0]) (cs := [.slice none 0 0, str [], iv 0]) ko rfl) ?_
  rintro _ _ ⟨b_12, rfl, rfl⟩
  refine jH rfl (ja 0 (vs := [.slice y_8.a y_8.l.length y_8.c, str y_8.jt, iv y_8.js]) (cs' := [.slice y_8.a y_8.l.length y_8.c, str y_8.jt, iv y_8.js]) rfl rfl rfl rfl kd rfl rfl (lb rfl) rfl) ?_
  rintro _ _ rfl
  refine jA (jG (v := .bool ((y_2.dat.foldB).2)) rfl) <| jE <| jB <| jC <| jF <| jK (jO 2 (vs := [.slice y_2.a y_2.l.length y_2.c, str y_2.jt, iv y_2.js]) rfl rfl ke kd rfl rfl) ?_
  refine jH rfl (jI [] Tryz.call20 rfl (Y_sFoldB y_2 hd_3.z hd_3.l) rfl (fun w hw => hw.seeRows 3 rfl)) ?_
  rintro _ _ ⟨_, ⟨y_13, hy_14, rfl, rfl⟩, rfl⟩
  have hz_15 : y_13.dat.okz := by rw [hy_14]; exact foldB_okz hd_3.z
  have hl_16 : y_13.dat.lim 1000000000 := by rw [hy_14]; exact foldB_lim hd_3.z hd_3.l (by decide)
  refine jA (jD (v := .tuple #[.agg #[.slice y_13.a y_13.l.length y_13.c, str y_13.jt, iv y_13.js], .bool ((y_2.dat.foldB).2)]) rfl) <| jA (je (v := .agg #[.slice y_13.a y_13.l.length y_13.c, str y_13.jt, iv y_13.js]) rfl rfl) <| jA (je (v := .bool ((y_2.dat.foldB).2)) rfl rfl) ?_
  refine jH rfl (jo (z := .agg #[.slice none 0 0, str [], iv 0]) (cs := [.slice none 0 0, str [], iv 0]) ko rfl) ?_
  rintro _ _ ⟨b_17, rfl, rfl⟩
  refine jH rfl (ja 0 (vs := [.slice y_13.a y_13.l.length y_13.c, str y_13.jt, iv y_13.js]) (cs' := [.slice y_13.a y_13.l.length y_13.c, str y_13.jt, iv y_13.js]) rfl rfl rfl rfl kd rfl rfl (lb rfl) rfl) ?_
  rintro _ _ rfl
  refine jA (jG (v := .bool ((y_2.dat.foldB).2)) rfl) <| jE <| jB <| jC <| jF <| jK (jO 2 (vs := [.slice y_8.a y_8.l.length y_8.c, str y_8.jt, iv y_8.js]) rfl rfl ke kd rfl rfl) ?_
  refine jH rfl (jI [] Tryz.call32 rfl (Y_iFoldE y_8 hz_10 hl_11) rfl (fun w hw => hw.seeRows 3 rfl)) ?_
  rintro _ _ ⟨_, ⟨y_18, hy_19, rfl, rfl⟩, rfl⟩
  have hz_20 : y_18.dat.okz := by rw [hy_19]; exact foldE_okz hz_10
  have hl_21 : y_18.dat.lim 1000000000 := by rw [hy_19]; exact foldE_lim hl_11
  refine jA (jD (v := .tuple #[.agg #[.slice y_18.a y_18.l.length y_18.c, str y_18.jt, iv y_18.js], .bool ((y_8.dat.foldE).2)]) rfl) <| jA (je (v := .agg #[.slice y_18.a y_18.l.length y_18.c, str y_18.jt, iv y_18.js]) rfl rfl) <| jA (je (v := .bool ((y_8.dat.foldE).2)) rfl rfl) ?_
  refine jH rfl (jo (z := .agg #[.slice none 0 0, str [], iv 0]) (cs := [.slice none 0 0, str [], iv 0]) ko rfl) ?_
  rintro _ _ ⟨b_22, rfl, rfl⟩
  refine jH rfl (ja 0 (vs := [.slice y_18.a y_18.l.length y_18.c, str y_18.jt, iv y_18.js]) (cs' := [.slice y_18.a y_18.l.length y_18.c, str y_18.jt, iv y_18.js]) rfl rfl rfl rfl kd rfl rfl (lb rfl) rfl) ?_
  rintro _ _ rfl
  refine jA (jG (v := .bool ((y_8.dat.foldE).2)) rfl) <| jE <| jB <| jC <| jF <| jK (jO 4 (vs := [.slice y_8.a y_8.l.length y_8.c, str y_8.jt, iv y_8.js]) rfl rfl ke kd rfl rfl) ?_
  refine jH rfl (jI [] Tryz.call38 rfl (Y_sFoldE y_8 hz_10 hl_11) rfl (fun w hw => hw.seeRows 5 rfl)) ?_
  rintro _ _ ⟨_, ⟨y_23, hy_24, rfl, rfl⟩, rfl⟩
  have hz_25 : y_23.dat.okz := by rw [hy_24]; exact foldE_okz hz_10
  have hl_26 : y_23.dat.lim 1000000000 := by rw [hy_24]; exact foldE_lim hl_11
  refine jA (jD (v := .tuple #[.agg #[.slice y_23.a y_23.l.length y_23.c, str y_23.jt, iv y_23.js], .bool ((y_8.dat.foldE).2)]) rfl) <| jA (je (v := .agg #[.slice y_23.a y_23.l.length y_23.c, str y_23.jt, iv y_23.js]) rfl rfl) <| jA (je (v := .bool ((y_8.dat.foldE).2)) rfl rfl) ?_
  refine jH rfl (jo (z := .agg #[.slice none 0 0, str [], iv 0]) (cs := [.slice none 0 0, str [], iv 0]) ko rfl) ?_
  rintro _ _ ⟨b_27, rfl, rfl⟩
  refine jH rfl (ja 0 (vs := [.slice y_23.a y_23.l.length y_23.c, str y_23.jt, iv y_23.js]) (cs' := [.slice y_23.a y_23.l.length y_23.c, str y_23.jt, iv y_23.js]) rfl rfl rfl rfl kd rfl rfl (lb rfl) rfl) ?_
  rintro _ _ rfl
  refine jA (jG (v := .bool ((y_8.dat.foldE).2)) rfl) <| jE <| jB <| jC <| jF <| jK (jO 2 (vs := [.slice y_18.a y_18.l.length y_18.c, str y_18.jt, iv y_18.js]) rfl rfl ke kd rfl rfl) ?_
  refine jH rfl (jI [] Tryz.call14 rfl (Y_iTrim y_18 hz_20 hl_21) rfl (fun w hw => ⟨hw.seeRows 3 rfl, hw.hex hlow hpre.2⟩)) ?_
  rintro _ _ ⟨_, ⟨y_28, hy_29, rfl, rfl⟩, rfl⟩
  have hz_30 : y_28.dat.okz := by rw [hy_29]; exact trim_okz hz_20
  have hl_31 : y_28.dat.lim 1000000000 := by rw [hy_29]; exact trim_lim hl_21
  refine jH rfl (jo (z := .agg #[.slice none 0 0, str [], iv 0]) (cs := [.slice none 0 0, str [], iv 0]) ko rfl) ?_
  rintro _ _ ⟨b_32, rfl, rfl⟩
  refine jH rfl (ja 0 (vs := [.slice y_28.a y_28.l.length y_28.c, str y_28.jt, iv y_28.js]) (cs' := [.slice y_28.a y_28.l.length y_28.c, str y_28.jt, iv y_28.js]) rfl rfl rfl rfl kd rfl rfl (lb rfl) rfl) ?_
  rintro _ _ rfl
  refine jE <| jB <| jC <| jF <| jK (jO 10 (vs := [.slice y_2.a y_2.l.length y_2.c, str y_2.jt, iv y_2.js]) rfl rfl ke kd rfl rfl) ?_
  refine jH rfl (jI [] Tryz.call23 rfl (Y_iFolded y_2 hd_3.z hd_3.l) rfl (fun w hw => ⟨hw.seeRows 11 rfl, hw.hex hlow hpre.2⟩)) ?_
  rintro _ _ ⟨_, ⟨y_33, hy_34, rfl, rfl⟩, rfl⟩
  have hz_35 : y_33.dat.okz := by rw [hy_34]; exact folded_okz hd_3.z
  have hl_36 : y_33.dat.lim 1000000000 := by rw [hy_34]; exact folded_lim hd_3.z hd_3.l (by decide)
  refine jA (jD (v := .tuple #[.agg #[.slice y_33.a y_33.l.length y_33.c, str y_33.jt, iv y_33.js], .bool ((y_2.dat.folded).2)]) rfl) <| jA (je (v := .agg #[.slice y_33.a y_33.l.length y_33.c, str y_33.jt, iv y_33.js]) rfl rfl) <| jA (je (v := .bool ((y_2.dat.folded).2)) rfl rfl) ?_
  refine jH rfl (jo (z := .agg #[.slice none 0 0, str [], iv 0]) (cs := [.slice none 0 0, str [], iv 0]) ko rfl) ?_
  rintro _ _ ⟨b_37, rfl, rfl⟩
  refine jH rfl (ja 0 (vs := [.slice y_33.a y_33.l.length y_33.c, str y_33.jt, iv y_33.js]) (cs' := [.slice y_33.a y_33.l.length y_33.c, str y_33.jt, iv y_33.js]) rfl rfl rfl rfl kd rfl rfl (lb rfl) rfl) ?_
  rintro _ _ rfl
  refine jA (jG (v := .bool ((y_2.dat.folded).2)) rfl) <| jE <| jB <| jC <| jF <| jK (jO 12 (vs := [.slice y_2.a y_2.l.length y_2.c, str y_2.jt, iv y_2.js]) rfl rfl ke kd rfl rfl) ?_
  refine jH rfl (jI [] Tryz.call22 rfl (Y_sFolded y_2 hd_3.z hd_3.l) rfl (fun w hw => hw.seeRows 13 rfl)) ?_
  rintro _ _ ⟨_, ⟨y_38, hy_39, rfl, rfl⟩, rfl⟩
  have hz_40 : y_38.dat.okz := by rw [hy_39]; exact folded_okz hd_3.z
  have hl_41 : y_38.dat.lim 1000000000 := by rw [hy_39]; exact folded_lim hd_3.z hd_3.l (by decide)
  refine jA (jD (v := .tuple #[.agg #[.slice y_38.a y_38.l.length y_38.c, str y_38.jt, iv y_38.js], .bool ((y_2.dat.folded).2)]) rfl) <| jA (je (v := .agg #[.slice y_38.a y_38.l.length y_38.c, str y_38.jt, iv y_38.js]) rfl rfl) <| jA (je (v := .bool ((y_2.dat.folded).2)) rfl rfl) ?_
  refine jH rfl (jo (z := .agg #[.slice none 0 0, str [], iv 0]) (cs := [.slice none 0 0, str [], iv 0]) ko rfl) ?_
  rintro _ _ ⟨b_42, rfl, rfl⟩
  refine jH rfl (ja 0 (vs := [.slice y_38.a y_38.l.length y_38.c, str y_38.jt, iv y_38.js]) (cs' := [.slice y_38.a y_38.l.length y_38.c, str y_38.jt, iv y_38.js]) rfl rfl rfl rfl kd rfl rfl (lb rfl) rfl) ?_
  rintro _ _ rfl
  refine jA (jG (v := .bool ((y_2.dat.folded).2)) rfl) <| jE <| jB <| jC <| jC <| kJ [bk b_42 31 [.slice y_38.a y_38.l.length y_38.c, str y_38.jt, iv y_38.js], bk b_37 31 [.slice y_33.a y_33.l.length y_33.c, str y_33.jt, iv y_33.js], bk b_32 31 [.slice y_28.a y_28.l.length y_28.c, str y_28.jt, iv y_28.js], bk b_27 31 [.slice y_23.a y_23.l.length y_23.c, str y_23.jt, iv y_23.js], bk b_22 31 [.slice y_18.a y_18.l.length y_18.c, str y_18.jt, iv y_18.js], bk b_17 31 [.slice y_13.a y_13.l.length y_13.c, str y_13.jt, iv y_13.js], bk b_12 31 [.slice y_8.a y_8.l.length y_8.c, str y_8.jt, iv y_8.js], bk b_7 31 [.slice y_2.a y_2.l.length y_2.c, str y_2.jt, iv y_2.js]] 1000 mixed (by simp) <| jL 0 rfl (jD (v := .bool ((y_2.dat.foldB).2)) rfl) <| jL 1 rfl (jD (v := .bool ((y_2.dat.foldB).2)) rfl) <| jL 2 rfl (PO.neqB gJ rfl rfl) <| jL 3 rfl (jD (v := .bool (!(decide (((y_2.dat.foldB).2) = ((y_2.dat.foldB).2))))) rfl) ?_
  refine kK 4 rfl (by kernel_rfl) (NP.th (NP.th NP.body)) (by kernel_rfl) (by kernel_rfl) (by kernel_rfl) rfl rfl rfl (cB (cN (dT rfl))) (jO 6 (vs := [.slice y_8.a y_8.l.length y_8.c, str y_8.jt, iv y_8.js]) rfl rfl ke kd rfl rfl) <| kK 5 rfl (by kernel_rfl) (NP.th (NP.th NP.body)) (by kernel_rfl) (by kernel_rfl) (by kernel_rfl) rfl rfl rfl (cB (cN (dT rfl))) (jO 5 (vs := [.slice y_13.a y_13.l.length y_13.c, str y_13.jt, iv y_13.js]) rfl rfl ke kd rfl rfl) <| jj (i := 6) ?_
  refine kQ rfl rfl rfl rfl (cB (cN (dT rfl))) (jI [] Tryz.call39 rfl (Y_sameDisk y_8 y_13 hl_11) rfl (fun w hw => ⟨hw.seeRows 13 rfl, hw.seeRows 11 rfl⟩)) ?_
  rintro _ _ ⟨_, ⟨rfl, rfl⟩, rfl⟩
  refine ⟨(by simp), ?_⟩
  refine jg 7 rfl (by kernel_rfl) (NP.th (NP.th NP.body)) (by kernel_rfl) (by kernel_rfl) rfl rfl rfl (cB (cN (dT rfl))) (jp rfl) <| jL 8 rfl (ji (v := .bool (!(decide (y_8.dat = y_13.dat)))) (cB (cN (dT rfl))) rfl) <| jL 9 rfl (jD (v := .bool (!(decide (y_8.dat = y_13.dat)))) rfl) ?_
  have h_43 : y_8.dat = y_13.dat := (by simp only [hy_9, hy_14, hy_19, hy_24, hy_29, hy_34, hy_39])
  refine jg 10 rfl (by kernel_rfl) (NP.th (NP.th NP.body)) (by kernel_rfl) (by kernel_rfl) rfl rfl rfl (cB (cN (dT h_43))) (jD (v := .bool ((y_8.dat.foldE).2)) rfl) <| jg 11 rfl (by kernel_rfl) (NP.th (NP.th NP.body)) (by kernel_rfl) (by kernel_rfl) rfl rfl rfl (cB (cN (dT h_43))) (jD (v := .bool ((y_8.dat.foldE).2)) rfl) <| jg 12 rfl (by kernel_rfl) (NP.th (NP.th NP.body)) (by kernel_rfl) (by kernel_rfl) rfl rfl rfl (cB (cN (dT h_43))) (PO.neqB gJ rfl rfl) <| jL 13 rfl (ji (v := .bool (!(decide (((y_8.dat.foldE).2) = ((y_8.dat.foldE).2))))) (cB (cN (dT h_43))) rfl) <| jL 14 rfl (jD (v := .bool (!(decide (((y_8.dat.foldE).2) = ((y_8.dat.foldE).2))))) rfl) <| kK 15 rfl (by kernel_rfl) (NP.th (NP.th NP.body)) (by kernel_rfl) (by kernel_rfl) (by kernel_rfl) rfl rfl rfl (cB (cN (dT rfl))) (jO 4 (vs := [.slice y_18.a y_18.l.length y_18.c, str y_18.jt, iv y_18.js]) rfl rfl ke kd rfl rfl) <| kK 16 rfl (by kernel_rfl) (NP.th (NP.th NP.body)) (by kernel_rfl) (by kernel_rfl) (by kernel_rfl) rfl rfl rfl (cB (cN (dT rfl))) (jO 3 (vs := [.slice y_23.a y_23.l.length y_23.c, str y_23.jt, iv y_23.js]) rfl rfl ke kd rfl rfl) <| jj (i := 17) ?_
  refine kQ rfl rfl rfl rfl (cB (cN (dT rfl))) (jI [] Tryz.call39 rfl (Y_sameDisk y_18 y_23 hl_21) rfl (fun w hw => ⟨hw.seeRows 9 rfl, hw.seeRows 7 rfl⟩)) ?_
  rintro _ _ ⟨_, ⟨rfl, rfl⟩, rfl⟩
  refine ⟨(by simp), ?_⟩
  refine jg 18 rfl (by kernel_rfl) (NP.th (NP.th NP.body)) (by kernel_rfl) (by kernel_rfl) rfl rfl rfl (cB (cN (dT rfl))) (jp rfl) <| jL 19 rfl (ji (v := .bool (!(decide (y_18.dat = y_23.dat)))) (cB (cN (dT rfl))) rfl) <| jL 20 rfl (jD (v := .bool (!(decide (y_18.dat = y_23.dat)))) rfl) ?_
  have h_44 : y_18.dat = y_23.dat := (by simp only [hy_9, hy_14, hy_19, hy_24, hy_29, hy_34, hy_39])
  refine kK 21 rfl (by kernel_rfl) (NP.th (NP.th NP.body)) (by kernel_rfl) (by kernel_rfl) (by kernel_rfl) rfl rfl rfl (cB (cN (dT h_44))) (jO 2 (vs := [.slice y_28.a y_28.l.length y_28.c, str y_28.jt, iv y_28.js]) rfl rfl ke kd rfl rfl) <| kK 22 rfl (by kernel_rfl) (NP.th (NP.th NP.body)) (by kernel_rfl) (by kernel_rfl) (by kernel_rfl) rfl rfl rfl (cB (cN (dT h_44))) (jO 4 (vs := [.slice y_18.a y_18.l.length y_18.c, str y_18.jt, iv y_18.js]) rfl rfl ke kd rfl rfl) <| jj (i := 23) ?_
  refine kQ rfl rfl rfl rfl (cB (cN (dT h_44))) (jI [] Tryz.call12 rfl (Y_sTrim y_18 hz_20 hl_21) rfl (fun w hw => hw.seeRows 9 rfl)) ?_
  rintro _ _ ⟨_, ⟨y_49, hy_50, rfl, rfl⟩, rfl⟩
  have hz_51 : y_49.dat.okz := by rw [hy_50]; exact trim_okz hz_20
  have hl_52 : y_49.dat.lim 1000000000 := by rw [hy_50]; exact trim_lim hl_21
  refine ⟨(by simp), ?_⟩
  refine jj (i := 24) ?_
  refine kQ rfl rfl rfl rfl (cB (cN (dT h_44))) (jI [] Tryz.call39 rfl (Y_sameDisk y_28 y_49 hl_31) rfl (fun w hw => ⟨hw.seeRows 6 rfl, hw.seeRows 0 rfl⟩)) ?_
  rintro _ _ ⟨_, ⟨rfl, rfl⟩, rfl⟩
  refine ⟨(by simp), ?_⟩
  refine jg 25 rfl (by kernel_rfl) (NP.th (NP.th NP.body)) (by kernel_rfl) (by kernel_rfl) rfl rfl rfl (cB (cN (dT h_44))) (jp rfl) <| jL 26 rfl (ji (v := .bool (!(decide (y_28.dat = y_49.dat)))) (cB (cN (dT h_44))) rfl) <| jL 27 rfl (jD (v := .bool (!(decide (y_28.dat = y_49.dat)))) rfl) ?_
  have h_53 : y_28.dat = y_49.dat := (by simp only [hy_9, hy_14, hy_19, hy_24, hy_29, hy_34, hy_39, hy_50])
  refine jg 28 rfl (by kernel_rfl) (NP.th (NP.th NP.body)) (by kernel_rfl) (by kernel_rfl) rfl rfl rfl (cB (cN (dT h_53))) (jD (v := .bool ((y_2.dat.folded).2)) rfl) <| jg 29 rfl (by kernel_rfl) (NP.th (NP.th NP.body)) (by kernel_rfl) (by kernel_rfl) rfl rfl rfl (cB (cN (dT h_53))) (jD (v := .bool ((y_2.dat.folded).2)) rfl) <| jg 30 rfl (by kernel_rfl) (NP.th (NP.th NP.body)) (by kernel_rfl) (by kernel_rfl) rfl rfl rfl (cB (cN (dT h_53))) (PO.neqB gJ rfl rfl) <| jL 31 rfl (ji (v := .bool (!(decide (((y_2.dat.folded).2) = ((y_2.dat.folded).2))))) (cB (cN (dT h_53))) rfl) <| jL 32 rfl (jD (v := .bool (!(decide (((y_2.dat.folded).2) = ((y_2.dat.folded).2))))) rfl) <| kK 33 rfl (by kernel_rfl) (NP.th (NP.th NP.body)) (by kernel_rfl) (by kernel_rfl) (by kernel_rfl) rfl rfl rfl (cB (cN (dT rfl))) (jO 1 (vs := [.slice y_33.a y_33.l.length y_33.c, str y_33.jt, iv y_33.js]) rfl rfl ke kd rfl rfl) <| kK 34 rfl (by kernel_rfl) (NP.th (NP.th NP.body)) (by kernel_rfl) (by kernel_rfl) (by kernel_rfl) rfl rfl rfl (cB (cN (dT rfl))) (jO 0 (vs := [.slice y_38.a y_38.l.length y_38.c, str y_38.jt, iv y_38.js]) rfl rfl ke kd rfl rfl) <| jj (i := 35) ?_
  refine kQ rfl rfl rfl rfl (cB (cN (dT rfl))) (jI [] Tryz.call39 rfl (Y_sameDisk y_33 y_38 hl_36) rfl (fun w hw => ⟨hw.seeRows 4 rfl, hw.seeRows 2 rfl⟩)) ?_
  rintro _ _ ⟨_, ⟨rfl, rfl⟩, rfl⟩
  refine ⟨(by simp), ?_⟩
  refine jg 36 rfl (by kernel_rfl) (NP.th (NP.th NP.body)) (by kernel_rfl) (by kernel_rfl) rfl rfl rfl (cB (cN (dT rfl))) (jp rfl) <| jL 37 rfl (ji (v := .bool (!(decide (y_33.dat = y_38.dat)))) (cB (cN (dT rfl))) rfl) <| jL 38 rfl (jD (v := .bool (!(decide (y_33.dat = y_38.dat)))) rfl) ?_
  have h_54 : y_33.dat = y_38.dat := (by simp only [hy_9, hy_14, hy_19, hy_24, hy_29, hy_34, hy_39, hy_50])
  refine kK 39 rfl (by kernel_rfl) (NP.th (NP.th NP.body)) (by kernel_rfl) (by kernel_rfl) (by kernel_rfl) rfl rfl rfl (cB (cN (dT h_54))) (jO 7 (vs := [.slice y_2.a y_2.l.length y_2.c, str y_2.jt, iv y_2.js]) rfl rfl ke kd rfl rfl) <| jg 41 rfl (by kernel_rfl) (NP.th (NP.th NP.body)) (by kernel_rfl) (by kernel_rfl) rfl rfl rfl (cB (cN (dT h_54))) (jQ fo31_1 rfl) <| jg 42 rfl (by kernel_rfl) (NP.th (NP.th NP.body)) (by kernel_rfl) (by kernel_rfl) rfl rfl rfl (cB (cN (dT h_54))) (jQ fo29_0 rfl) <| kK 43 rfl (by kernel_rfl) (NP.th (NP.th NP.body)) (by kernel_rfl) (by kernel_rfl) (by kernel_rfl) rfl rfl rfl (cB (cN (dT h_54))) (jZ 7 (v := str y_2.jt) rfl rfl ki rfl) <| jg 44 rfl (by kernel_rfl) (NP.th (NP.th NP.body)) (by kernel_rfl) (by kernel_rfl) rfl rfl rfl (cB (cN (dT h_54))) (kF kg rfl) <| jj (i := 40) ?_
  refine kQ rfl rfl rfl rfl (cB (cN (dT h_54))) (jI [] Tryz.call36 rfl (Y_jsize y_2 hd_3.z.k2) rfl (fun _ _ => trivial)) ?_
  rintro _ _ ⟨_, ⟨rfl, rfl⟩, rfl⟩
  refine ⟨(by simp), ?_⟩
  refine jg 45 rfl (by kernel_rfl) (NP.th (NP.th NP.body)) (by kernel_rfl) (by kernel_rfl) rfl rfl rfl (cB (cN (dT h_54))) (kS rfl rfl) <| jL 46 rfl (ji (v := .bool (!(decide (((y_2.jt.length : Nat) : Int) = (y_2.jt.length : Int))))) (cB (cN (dT h_54))) rfl) <| kI (by kernel_rfl) <| jB ?_
  have h_55 : ((y_2.jt.length : Nat) : Int) = (y_2.jt.length : Int) := rfl
  refine jR (cB (cN (dT h_55))) <| jT <| jB <| jC <| jF ?_
  refine jH rfl (jI [] Tryz.call40 rfl (Y_specDiskNew none 0 [] (by first | omega | simp)) rfl (fun w hw => sees_nil _)) ?_
  rintro _ _ ⟨_, ⟨d_56, hd_57, rfl, rfl⟩, rfl⟩
  have hd_58 : Drawn2 d_56 := drawn_new hd_57 ⟨by simp, fun c hc => by cases hc⟩
  have hj_59 := hd_58.j
  refine jH rfl (jo (z := .agg #[.slice none 0 0, str [], iv 0]) (cs := [.slice none 0 0, str [], iv 0]) ko rfl) ?_
  rintro _ _ ⟨b_60, rfl, rfl⟩
  refine jH rfl (ja 0 (vs := [.slice d_56.a d_56.l.length d_56.c, str d_56.jt, iv d_56.js]) (cs' := [.slice d_56.a d_56.l.length d_56.c, str d_56.jt, iv d_56.js]) rfl rfl rfl rfl kd rfl rfl (lb rfl) rfl) ?_
  rintro _ _ rfl
  refine jE <| jB <| jC <| jF <| jA (kW (ps := [(0, str [97]), (1, str [98])]) (cs := [str [97], str [98]]) rfl (by kernel_rfl)) ?_
  refine jH rfl (kH (ps := [(0, .agg #[str [97], str [98]])]) (cur := #[str [97], str [98]]) kf kh kw rfl (by kernel_rfl) (by decide) (by decide)) ?_
  rintro _ _ ⟨a_61, rfl, rfl⟩
  refine jH rfl (jI [] Tryz.call41 rfl (Y_sRec 1 a_61 1 ([([97], [98])] : List Cell) (short_okC (fun c hc => by simp only [List.mem_cons, List.not_mem_nil, or_false] at hc; subst hc; exact ⟨by dsimp only; first | decide | omega, by dsimp only; first | decide | omega⟩) (by simp))) rfl (fun w hw => hw.see (i := 0) rfl)) ?_
  rintro _ _ ⟨_, ⟨rfl, rfl⟩, rfl⟩
  have hrl_62 := recTextL 1 ([([97], [98])] : List Cell)
  refine jA (jQ fo31_1 rfl) <| jA (jQ fo29_0 rfl) ?_
  refine jH rfl (ja 1 (vs := [str (recText 1 ([([97], [98])] : List Cell))]) (cs' := [.slice d_56.a d_56.l.length d_56.c, str (recText 1 ([([97], [98])] : List Cell)), iv d_56.js]) rfl rfl rfl rfl kt rfl rfl (lb rfl) rfl) ?_
  rintro _ _ rfl
  refine jE <| jB <| jC ?_
  have hoN : Drawn2 (⟨d_56.a, d_56.c, d_56.l, recText 1 ([([97], [98])] : List Cell), d_56.js⟩ : DX) := hd_58.of rfl (by show (recText 1 _).length ≤ _; omega)
  have hoE : (⟨d_56.a, d_56.c, d_56.l, recText 1 ([([97], [98])] : List Cell), d_56.js⟩ : DX).dat = ⟨[⟨0, [], true⟩, ⟨0, [], false⟩], recText 1 [([97], [98])], 0⟩ := by show (⟨d_56.l.map OX.t, _, d_56.js⟩ : DD) = _; rw [show d_56.l.map OX.t = _ from congrArg DD.slots hd_57, show d_56.js = 0 from congrArg DD.js hd_57]; rfl
  have hoF := one_folded (k := [97]) (v := [98]) (j := 0) (by decide) (by decide) (by decide) rfl (by decide) (by omega)
  rw [← hoE] at hoF
  obtain ⟨hoF1, hoF2, hoF3⟩ := hoF
  refine jF <| jK (jO 1 (vs := [.slice d_56.a d_56.l.length d_56.c, str (recText 1 ([([97], [98])] : List Cell)), iv d_56.js]) rfl rfl ke kd rfl rfl) ?_
  refine jH rfl (jI [] Tryz.call23 rfl (Y_iFolded (⟨d_56.a, d_56.c, d_56.l, recText 1 ([([97], [98])] : List Cell), d_56.js⟩ : DX) hoN.z hoN.l) rfl (fun w hw => ⟨hw.seeRows 2 rfl, hw.hex hlow hpre.2⟩)) ?_
  rintro _ _ ⟨_, ⟨y_63, hy_64, rfl, rfl⟩, rfl⟩
  have hz_65 : y_63.dat.okz := by rw [hy_64]; exact folded_okz hoN.z
  have hl_66 : y_63.dat.lim 1000000000 := by rw [hy_64]; exact folded_lim hoN.z hoN.l (by decide)
  refine jA (jD (v := .tuple #[.agg #[.slice y_63.a y_63.l.length y_63.c, str y_63.jt, iv y_63.js], .bool (((⟨d_56.a, d_56.c, d_56.l, recText 1 ([([97], [98])] : List Cell), d_56.js⟩ : DX).dat.folded).2)]) rfl) <| jA (je (v := .agg #[.slice y_63.a y_63.l.length y_63.c, str y_63.jt, iv y_63.js]) rfl rfl) <| jA (je (v := .bool (((⟨d_56.a, d_56.c, d_56.l, recText 1 ([([97], [98])] : List Cell), d_56.js⟩ : DX).dat.folded).2)) rfl rfl) ?_
  refine jH rfl (jo (z := .agg #[.slice none 0 0, str [], iv 0]) (cs := [.slice none 0 0, str [], iv 0]) ko rfl) ?_
  rintro _ _ ⟨b_67, rfl, rfl⟩
  refine jH rfl (ja 0 (vs := [.slice y_63.a y_63.l.length y_63.c, str y_63.jt, iv y_63.js]) (cs' := [.slice y_63.a y_63.l.length y_63.c, str y_63.jt, iv y_63.js]) rfl rfl rfl rfl kd rfl rfl (lb rfl) rfl) ?_
  rintro _ _ rfl
  refine jA (jG (v := .bool (((⟨d_56.a, d_56.c, d_56.l, recText 1 ([([97], [98])] : List Cell), d_56.js⟩ : DX).dat.folded).2)) rfl) <| jE <| jB <| jC <| jC ?_
  have hjt2 : y_63.jt = [] := (congrArg DD.jt hy_64).trans hoF2
  have hsl2 : y_63.l.map OX.t = [⟨0, [], true⟩, ⟨1, [([97], [98])], true⟩] := (congrArg DD.slots hy_64).trans hoF3
  have htl2 : y_63.l.length = 2 := by have h_ := congrArg List.length hsl2; simpa only [List.length_map, List.length_cons, List.length_nil] using h_
  have hts2 : (y_63.l.getD 1 o0).t.seq = 1 := by have h_ : (y_63.l.map OX.t).getD 1 o0.t = (y_63.l.getD 1 o0).t := getD_map'; rw [← h_, hsl2]; rfl
  refine kT (L' := [Res.row (.slice y_63.a y_63.l.length y_63.c) 60 3 y_63.l.length (y_63.l.flatMap encO), Res.rows (y_63.l.flatMap rdsO), bk b_67 31 [.slice y_63.a y_63.l.length y_63.c, str y_63.jt, iv y_63.js], Res.row (.slice a_61 1 1) 48 2 1 (([([97], [98])] : List Cell).flatMap encC), bk b_60 31 [.slice d_56.a d_56.l.length d_56.c, str (recText 1 ([([97], [98])] : List Cell)), iv d_56.js], Res.rows (rdsD d_56), Res.rows (rdsD y_49), bk b_42 31 [.slice y_38.a y_38.l.length y_38.c, str y_38.jt, iv y_38.js], Res.rows (rdsD y_38), bk b_37 31 [.slice y_33.a y_33.l.length y_33.c, str y_33.jt, iv y_33.js], Res.rows (rdsD y_33), bk b_32 31 [.slice y_28.a y_28.l.length y_28.c, str y_28.jt, iv y_28.js], Res.rows (rdsD y_28), bk b_27 31 [.slice y_23.a y_23.l.length y_23.c, str y_23.jt, iv y_23.js], Res.rows (rdsD y_23), bk b_22 31 [.slice y_18.a y_18.l.length y_18.c, str y_18.jt, iv y_18.js], Res.rows (rdsD y_18), bk b_17 31 [.slice y_13.a y_13.l.length y_13.c, str y_13.jt, iv y_13.js], Res.rows (rdsD y_13), bk b_12 31 [.slice y_8.a y_8.l.length y_8.c, str y_8.jt, iv y_8.js], Res.rows (rdsD y_8), bk b_7 31 [.slice y_2.a y_2.l.length y_2.c, str y_2.jt, iv y_2.js], Res.rows (rdsD y_2)]) (fun w hw => hw.headR (r := ⟨.slice y_63.a y_63.l.length y_63.c, 60, 3, y_63.l.length, y_63.l.flatMap encO⟩) (A := y_63.l.flatMap rdsO) 1 rfl) <| jF <| jA (jD (v := .bool (((⟨d_56.a, d_56.c, d_56.l, recText 1 ([([97], [98])] : List Cell), d_56.js⟩ : DX).dat.folded).2)) rfl) <| jA (jp rfl) <| jA (jD (v := .bool (!(((⟨d_56.a, d_56.c, d_56.l, recText 1 ([([97], [98])] : List Cell), d_56.js⟩ : DX).dat.folded).2))) rfl) <| jM rfl rfl rfl (cB (cN hoF1)) (jP (jU (jQ fo31_1 rfl))) ?_
  rintro _ _ ⟨rfl, rfl⟩
  refine jM rfl rfl rfl (cB (cN hoF1)) (jP (jU (jQ fo29_0 rfl))) ?_
  rintro _ _ ⟨rfl, rfl⟩
  refine jM rfl rfl rfl (cB (cN hoF1)) (jP (jZ 2 (v := str y_63.jt) rfl rfl ki rfl)) ?_
  rintro _ _ ⟨rfl, rfl⟩
  refine jM rfl rfl rfl (cB (cN hoF1)) (jP (jU (kF kg rfl))) ?_
  rintro _ _ ⟨rfl, rfl⟩
  refine jM rfl rfl rfl (cB (cN hoF1)) (jP (jU (kS rfl rfl))) ?_
  rintro _ _ ⟨rfl, rfl⟩
  refine jA (ji (v := .bool (!(decide ((y_63.jt.length : Int) = 0)))) (cB (cN hoF1)) rfl) <| jA (jD (v := .bool (!(decide ((y_63.jt.length : Int) = 0)))) rfl) ?_
  have h_68 : (y_63.jt.length : Int) = 0 := (by rw [hjt2]; rfl)
  refine jM rfl rfl rfl (cB (cN (dT h_68))) (jP (jU (jQ fo31_0 rfl))) ?_
  rintro _ _ ⟨rfl, rfl⟩
  refine jM rfl rfl rfl (cB (cN (dT h_68))) (jP (jZ 2 (v := .slice y_63.a y_63.l.length y_63.c) rfl rfl ks rfl)) ?_
  rintro _ _ ⟨rfl, rfl⟩
  refine jM rfl rfl rfl (cB (cN (dT h_68))) (jP (jU (jr km rfl))) ?_
  rintro _ _ ⟨rfl, rfl⟩
  refine jM rfl rfl rfl (cB (cN (dT h_68))) (jP (jU (kS rfl rfl))) ?_
  rintro _ _ ⟨rfl, rfl⟩
  refine jA (ji (v := .bool (!(decide (((y_63.l.length : Nat) : Int) = 2)))) (cB (cN (dT h_68))) rfl) <| jA (jD (v := .bool (!(decide (((y_63.l.length : Nat) : Int) = 2)))) rfl) ?_
  have h_69 : ((y_63.l.length : Nat) : Int) = 2 := (by rw [htl2]; rfl)
  refine jM rfl rfl rfl (cB (cN (dT h_69))) (jP (jU (jQ fo31_0 rfl))) ?_
  rintro _ _ ⟨rfl, rfl⟩
  refine jM rfl rfl rfl (cB (cN (dT h_69))) (jP (jZ 2 (v := .slice y_63.a y_63.l.length y_63.c) rfl rfl ks rfl)) ?_
  rintro _ _ ⟨rfl, rfl⟩
  refine kN fun hst => ?_
  obtain ⟨hr_70, hr_70b, -⟩ := row_some 0 rfl (by omega) hst
  refine jM rfl rfl rfl (cB (cN (dT h_69))) (jP (jU (jk (i := 1) km kj hr_70 hr_70b rfl rfl (by omega)))) ?_
  rintro _ _ ⟨rfl, rfl⟩
  refine jM rfl rfl rfl (cB (cN (dT h_69))) (jP (jU (kL fo60_0 hr_70 rfl))) ?_
  rintro _ _ ⟨rfl, rfl⟩
  refine jM rfl rfl rfl (cB (cN (dT h_69))) (jP (ka 0 (v := iv ((y_63.l.getD 1 o0).t.seq)) rfl rfl kq (flat_at encO_len o0 y_63.l 1 0 (by omega) (by decide)))) ?_
  rintro _ _ ⟨rfl, rfl⟩
  refine jM rfl rfl rfl (cB (cN (dT h_69))) (jP (jU (kS rfl rfl))) ?_
  rintro _ _ ⟨rfl, rfl⟩
  refine jA (ji (v := .bool (!(decide (((y_63.l.getD 1 o0).t.seq) = 1)))) (cB (cN (dT h_69))) rfl) <| jE <| jB ?_
  have h_71 : ((y_63.l.getD 1 o0).t.seq) = 1 := hts2
  refine jR (cB (cN (dT h_71))) <| jT <| jB <| jC <| jC <| jF <| jK (jO 21 (vs := [.slice y_2.a y_2.l.length y_2.c, str y_2.jt, iv y_2.js]) rfl rfl ke kd rfl rfl) ?_
  refine jH rfl (jI [] Tryz.call42 rfl (Y_specDiskOk y_2 hd_3.z (by have h_ := (hd_3.l).l0; simpa only [DX.dat, List.length_map] using h_)) rfl (fun w hw => hw.seeRows 22 rfl)) ?_
  rintro _ _ ⟨_, ⟨rfl, rfl⟩, rfl⟩
  refine jA (jp rfl) <| jE <| jB ?_
  rcases Bool.eq_false_or_eq_true (diskOk y_2.dat) with h_72 | h_72
  · refine jR (cB (cN h_72)) <| jT <| jB <| jC <| jF <| jK (jO 21 (vs := [.slice y_2.a y_2.l.length y_2.c, str y_2.jt, iv y_2.js]) rfl rfl ke kd rfl rfl) ?_
    refine jH rfl (jI [] Tryz.call43 rfl (Y_sRecov y_2 hd_3.z hd_3.l) rfl (fun w hw => hw.seeRows 22 rfl)) ?_
    rintro _ _ ⟨_, ⟨a_73, c_74, rfl, rfl⟩, rfl⟩
    have hrn_75 := recov_len0 y_2.dat
    refine jA (jD (v := .tuple #[.slice a_73 y_2.dat.recov.1.length c_74, iv y_2.dat.recov.2]) rfl) <| jA (je (v := .slice a_73 y_2.dat.recov.1.length c_74) rfl rfl) <| jA (je (v := iv y_2.dat.recov.2) rfl rfl) <| jA (jG (v := .slice a_73 y_2.dat.recov.1.length c_74) rfl) <| jA (jG (v := iv y_2.dat.recov.2) rfl) <| jE <| jB <| jC <| kJ [bk b_37 31 [.slice y_33.a y_33.l.length y_33.c, str y_33.jt, iv y_33.js], bk b_32 31 [.slice y_28.a y_28.l.length y_28.c, str y_28.jt, iv y_28.js], bk b_22 31 [.slice y_18.a y_18.l.length y_18.c, str y_18.jt, iv y_18.js], bk b_12 31 [.slice y_8.a y_8.l.length y_8.c, str y_8.jt, iv y_8.js]] 11 mixed (by simp) <| jw 0 rfl (jO 3 (vs := [.slice y_8.a y_8.l.length y_8.c, str y_8.jt, iv y_8.js]) rfl rfl ke kd rfl rfl) ?_
    refine jw 1 rfl (jO 2 (vs := [.slice y_18.a y_18.l.length y_18.c, str y_18.jt, iv y_18.js]) rfl rfl ke kd rfl rfl) <| jw 2 rfl (jO 1 (vs := [.slice y_28.a y_28.l.length y_28.c, str y_28.jt, iv y_28.js]) rfl rfl ke kd rfl rfl) <| jw 3 rfl (jO 0 (vs := [.slice y_33.a y_33.l.length y_33.c, str y_33.jt, iv y_33.js]) rfl rfl ke kd rfl rfl) <| jw 4 rfl (jO 3 (vs := [.slice y_8.a y_8.l.length y_8.c, str y_8.jt, iv y_8.js]) rfl rfl ke kd rfl rfl) <| jw 6 rfl (jO 2 (vs := [.slice y_18.a y_18.l.length y_18.c, str y_18.jt, iv y_18.js]) rfl rfl ke kd rfl rfl) <| jw 8 rfl (jO 1 (vs := [.slice y_28.a y_28.l.length y_28.c, str y_28.jt, iv y_28.js]) rfl rfl ke kd rfl rfl) <| jj (i := 5) ?_
    refine jz rfl rfl (jI [] Tryz.call44 rfl (Y_sFallD y_8 hz_10 hl_11 0) rfl (fun w hw => hw.seeRows 21 rfl)) ?_
    rintro _ _ ⟨_, ⟨y_88, hy_89, rfl, rfl⟩, rfl⟩
    have hz_90 : y_88.dat.okz := by rw [hy_89]; exact fall_okz hz_10 0
    have hl_91 : y_88.dat.lim 1000000000 := by rw [hy_89]; exact fall_lim hl_11 0
    refine ⟨(by simp), ?_⟩
    refine jj (i := 7) ?_
    refine jz rfl rfl (jI [] Tryz.call44 rfl (Y_sFallD y_18 hz_20 hl_21 0) rfl (fun w hw => hw.seeRows 18 rfl)) ?_
    rintro _ _ ⟨_, ⟨y_96, hy_97, rfl, rfl⟩, rfl⟩
    have hz_98 : y_96.dat.okz := by rw [hy_97]; exact fall_okz hz_20 0
    have hl_99 : y_96.dat.lim 1000000000 := by rw [hy_97]; exact fall_lim hl_21 0
    refine ⟨(by simp), ?_⟩
    refine jj (i := 9) ?_
    refine jz rfl rfl (jI [] Tryz.call44 rfl (Y_sFallD y_28 hz_30 hl_31 0) rfl (fun w hw => hw.seeRows 15 rfl)) ?_
    rintro _ _ ⟨_, ⟨y_104, hy_105, rfl, rfl⟩, rfl⟩
    have hz_106 : y_104.dat.okz := by rw [hy_105]; exact fall_okz hz_30 0
    have hl_107 : y_104.dat.lim 1000000000 := by rw [hy_105]; exact fall_lim hl_31 0
    refine ⟨(by simp), ?_⟩
    refine jj (i := 10) ?_
    refine jz rfl rfl (kH (ps := [(0, .agg #[.slice y_8.a y_8.l.length y_8.c, str y_8.jt, iv y_8.js]), (1, .agg #[.slice y_18.a y_18.l.length y_18.c, str y_18.jt, iv y_18.js]), (2, .agg #[.slice y_28.a y_28.l.length y_28.c, str y_28.jt, iv y_28.js]), (3, .agg #[.slice y_33.a y_33.l.length y_33.c, str y_33.jt, iv y_33.js]), (4, .agg #[.slice y_88.a y_88.l.length y_88.c, str y_88.jt, iv y_88.js]), (5, .agg #[.slice y_96.a y_96.l.length y_96.c, str y_96.jt, iv y_96.js]), (6, .agg #[.slice y_104.a y_104.l.length y_104.c, str y_104.jt, iv y_104.js])]) (cur := #[.slice y_8.a y_8.l.length y_8.c, str y_8.jt, iv y_8.js, .slice y_18.a y_18.l.length y_18.c, str y_18.jt, iv y_18.js, .slice y_28.a y_28.l.length y_28.c, str y_28.jt, iv y_28.js, .slice y_33.a y_33.l.length y_33.c, str y_33.jt, iv y_33.js, .slice y_88.a y_88.l.length y_88.c, str y_88.jt, iv y_88.js, .slice y_96.a y_96.l.length y_96.c, str y_96.jt, iv y_96.js, .slice y_104.a y_104.l.length y_104.c, str y_104.jt, iv y_104.js]) Tryz.underlying62 kd ko rfl (by kernel_rfl) (by decide) (by decide)) ?_
    rintro _ _ ⟨a_109, rfl, rfl⟩
    refine ⟨(by simp), ?_⟩
    refine jL 11 rfl (jG (v := .slice a_109 7 7) rfl) <| kI (by kernel_rfl) <| jB <| jC <| jC <| jF <| jA (jG (v := iv 0) rfl) <| jE <| jB <| jf ?_
    refine kD (fun k_ e_ L_ => ∃ j : Nat, (j ≤ 7) ∧ e_ 5 = .bool ((y_2.dat.foldB).2) ∧ e_ 9 = .bool ((y_8.dat.foldE).2) ∧ e_ 14 = .bool ((y_2.dat.folded).2) ∧ e_ 20 = .slice a_73 y_2.dat.recov.1.length c_74 ∧ e_ 21 = iv y_2.dat.recov.2 ∧ e_ 22 = .slice a_109 7 7 ∧ e_ 23 = nv j ∧ L_ = [Res.row (.slice a_109 7 7) 31 3 7 [.slice y_8.a y_8.l.length y_8.c, str y_8.jt, iv y_8.js, .slice y_18.a y_18.l.length y_18.c, str y_18.jt, iv y_18.js, .slice y_28.a y_28.l.length y_28.c, str y_28.jt, iv y_28.js, .slice y_33.a y_33.l.length y_33.c, str y_33.jt, iv y_33.js, .slice y_88.a y_88.l.length y_88.c, str y_88.jt, iv y_88.js, .slice y_96.a y_96.l.length y_96.c, str y_96.jt, iv y_96.js, .slice y_104.a y_104.l.length y_104.c, str y_104.jt, iv y_104.js], Res.rows (rdsD y_104), Res.rows (rdsD y_96), Res.rows (rdsD y_88), rC a_73 c_74 y_2.dat.recov.1, Res.row (.slice y_63.a y_63.l.length y_63.c) 60 3 y_63.l.length (y_63.l.flatMap encO), Res.rows (y_63.l.flatMap rdsO), bk b_67 31 [.slice y_63.a y_63.l.length y_63.c, str y_63.jt, iv y_63.js], Res.row (.slice a_61 1 1) 48 2 1 (([([97], [98])] : List Cell).flatMap encC), bk b_60 31 [.slice d_56.a d_56.l.length d_56.c, str (recText 1 ([([97], [98])] : List Cell)), iv d_56.js], Res.rows (rdsD d_56), Res.rows (rdsD y_49), bk b_42 31 [.slice y_38.a y_38.l.length y_38.c, str y_38.jt, iv y_38.js], Res.rows (rdsD y_38), bk b_37 31 [.slice y_33.a y_33.l.length y_33.c, str y_33.jt, iv y_33.js], Res.rows (rdsD y_33), bk b_32 31 [.slice y_28.a y_28.l.length y_28.c, str y_28.jt, iv y_28.js], Res.rows (rdsD y_28), bk b_27 31 [.slice y_23.a y_23.l.length y_23.c, str y_23.jt, iv y_23.js], Res.rows (rdsD y_23), bk b_22 31 [.slice y_18.a y_18.l.length y_18.c, str y_18.jt, iv y_18.js], Res.rows (rdsD y_18), bk b_17 31 [.slice y_13.a y_13.l.length y_13.c, str y_13.jt, iv y_13.js], Res.rows (rdsD y_13), bk b_12 31 [.slice y_8.a y_8.l.length y_8.c, str y_8.jt, iv y_8.js], Res.rows (rdsD y_8), bk b_7 31 [.slice y_2.a y_2.l.length y_2.c, str y_2.jt, iv y_2.js], Res.rows (rdsD y_2)] ∧ k_ = 7 - j) _ ⟨0, by omega, rfl, rfl, rfl, rfl, rfl, rfl, rfl, rfl, rfl⟩ ?_
    rintro _ e_110 _ ⟨j, hj, he_111, he_112, he_113, he_114, he_115, he_116, he_117, rfl, rfl⟩
    refine jC <| jC <| jF <| jA (jD (v := nv j) he_117) <| jA (jD (v := .slice a_109 7 7) he_116) <| jA (jr Tryz.underlying62 rfl) <| jA (jl rfl rfl) <| jA (jD (v := .bool (decide (((j : Nat) : Int) < ((7 : Nat) : Int)))) rfl) ?_
    by_cases h_118 : ((j : Nat) : Int) < ((7 : Nat) : Int)
    · refine jM rfl rfl rfl (cB (dT h_118)) (jP (jU (jD (v := .bool ((y_2.dat.foldB).2)) he_111))) ?_
      rintro _ _ ⟨rfl, rfl⟩
      refine jA (jh (v := .bool ((y_2.dat.foldB).2)) (cB (dT h_118)) rfl) <| jE <| jB ?_
      rcases Bool.eq_false_or_eq_true ((y_2.dat.foldB).2) with h_119 | h_119
      · obtain ⟨ha1, ha2, ha3, ha4, ha5, ha6, ha7⟩ := folds_all h_72 h_119
        refine jW (cB h_119) <| jT <| jB <| jC <| jf <| jC ?_
        rcases (show j = 0 ∨ j = 1 ∨ j = 2 ∨ j = 3 ∨ j = 4 ∨ j = 5 ∨ j = 6 by omega) with rfl | rfl | rfl | rfl | rfl | rfl | rfl
        · have hrk : y_8.dat.recov = y_2.dat.recov := by simp only [hy_9, hy_14, hy_19, hy_24, hy_29, hy_34, hy_39, hy_50, hd_57, hy_64, hy_89, hy_97, hy_105]; exact ha1
          refine jF <| jA (jD (v := .slice a_109 7 7) he_116) <| jA (jD (v := nv 0) he_117) ?_
          refine kN fun hst => ?_
          obtain ⟨hr_120, hr_120b, -⟩ := row_some 0 rfl (by omega) hst
          refine jA (jk (i := 0) Tryz.underlying62 kd hr_120 hr_120b rfl rfl (by omega)) <| jK (LO.loadRK 0 (vs := [.slice y_8.a y_8.l.length y_8.c, str y_8.jt, iv y_8.js]) rfl rfl ke kd rfl rfl (by decide)) ?_
          refine jH rfl (jI [] Tryz.call43 rfl (Y_sRecov y_8 hz_10 hl_11) rfl (fun w hw => hw.seeRows 25 rfl)) ?_
          rintro _ _ ⟨_, ⟨a_121, c_122, rfl, rfl⟩, rfl⟩
          have hrn_123 := recov_len0 y_8.dat
          refine jA (jD (v := .tuple #[.slice a_121 y_8.dat.recov.1.length c_122, iv y_8.dat.recov.2]) rfl) <| jA (je (v := .slice a_121 y_8.dat.recov.1.length c_122) rfl rfl) <| jA (je (v := iv y_8.dat.recov.2) rfl rfl) <| jA (jG (v := .slice a_121 y_8.dat.recov.1.length c_122) rfl) <| jA (jG (v := iv y_8.dat.recov.2) rfl) <| jE <| jB <| jC <| jF <| jA (jD (v := .slice a_121 y_8.dat.recov.1.length c_122) rfl) ?_
          refine jA (jD (v := .slice a_73 y_2.dat.recov.1.length c_74) he_114) ?_
          refine jH rfl (jI [] Tryz.call34 rfl (C_sameCells a_121 a_73 c_122 c_74 y_8.dat.recov.1 y_2.dat.recov.1 (by omega)) rfl (fun w hw => ⟨hw.see (i := 0) rfl, hw.see (i := 5) rfl⟩)) ?_
          rintro _ _ ⟨_, ⟨rfl, rfl⟩, rfl⟩
          refine jA (jp rfl) <| jA (jD (v := .bool (!(decide (y_8.dat.recov.1 = y_2.dat.recov.1)))) rfl) ?_
          have h_124 : y_8.dat.recov.1 = y_2.dat.recov.1 := (by rw [hrk])
          refine jM rfl rfl rfl (cB (cN (dT h_124))) (jP (jU (jD (v := iv y_8.dat.recov.2) rfl))) ?_
          rintro _ _ ⟨rfl, rfl⟩
          refine jM rfl rfl rfl (cB (cN (dT h_124))) (jP (jU (jD (v := iv y_2.dat.recov.2) he_115))) ?_
          rintro _ _ ⟨rfl, rfl⟩
          refine jM rfl rfl rfl (cB (cN (dT h_124))) (jP (jU (kS rfl rfl))) ?_
          rintro _ _ ⟨rfl, rfl⟩
          refine jA (ji (v := .bool (!(decide (y_8.dat.recov.2 = y_2.dat.recov.2)))) (cB (cN (dT h_124))) rfl) <| jE <| jB ?_
          have h_125 : y_8.dat.recov.2 = y_2.dat.recov.2 := (by rw [hrk])
          refine jR (cB (cN (dT h_125))) <| jT <| jm <| jB <| jF <| jA (jD (v := nv 0) he_117) <| jA (jc (c := ((0 + 1 : Nat) : Int)) rfl rfl (wr (by omega))) <| jA (jG (v := iv ((0 + 1 : Nat) : Int)) rfl) <| jE <| kB [1, 1, 1, 1, 1, 1, 1, 1, 1, 1, 1, 1, 1, 1, 1, 1, 1, 1, 1, 1, 1, 1, 1, 1, 1, 1, 1, 1] (A := [Res.row (.slice a_109 7 7) 31 3 7 [.slice y_8.a y_8.l.length y_8.c, str y_8.jt, iv y_8.js, .slice y_18.a y_18.l.length y_18.c, str y_18.jt, iv y_18.js, .slice y_28.a y_28.l.length y_28.c, str y_28.jt, iv y_28.js, .slice y_33.a y_33.l.length y_33.c, str y_33.jt, iv y_33.js, .slice y_88.a y_88.l.length y_88.c, str y_88.jt, iv y_88.js, .slice y_96.a y_96.l.length y_96.c, str y_96.jt, iv y_96.js, .slice y_104.a y_104.l.length y_104.c, str y_104.jt, iv y_104.js], Res.rows (rdsD y_104), Res.rows (rdsD y_96), Res.rows (rdsD y_88), rC a_73 c_74 y_2.dat.recov.1, Res.row (.slice y_63.a y_63.l.length y_63.c) 60 3 y_63.l.length (y_63.l.flatMap encO), Res.rows (y_63.l.flatMap rdsO), bk b_67 31 [.slice y_63.a y_63.l.length y_63.c, str y_63.jt, iv y_63.js], Res.row (.slice a_61 1 1) 48 2 1 (([([97], [98])] : List Cell).flatMap encC), bk b_60 31 [.slice d_56.a d_56.l.length d_56.c, str (recText 1 ([([97], [98])] : List Cell)), iv d_56.js], Res.rows (rdsD d_56), Res.rows (rdsD y_49), bk b_42 31 [.slice y_38.a y_38.l.length y_38.c, str y_38.jt, iv y_38.js], Res.rows (rdsD y_38), bk b_37 31 [.slice y_33.a y_33.l.length y_33.c, str y_33.jt, iv y_33.js], Res.rows (rdsD y_33), bk b_32 31 [.slice y_28.a y_28.l.length y_28.c, str y_28.jt, iv y_28.js], Res.rows (rdsD y_28), bk b_27 31 [.slice y_23.a y_23.l.length y_23.c, str y_23.jt, iv y_23.js], Res.rows (rdsD y_23), bk b_22 31 [.slice y_18.a y_18.l.length y_18.c, str y_18.jt, iv y_18.js], Res.rows (rdsD y_18), bk b_17 31 [.slice y_13.a y_13.l.length y_13.c, str y_13.jt, iv y_13.js], Res.rows (rdsD y_13), bk b_12 31 [.slice y_8.a y_8.l.length y_8.c, str y_8.jt, iv y_8.js], Res.rows (rdsD y_8), bk b_7 31 [.slice y_2.a y_2.l.length y_2.c, str y_2.jt, iv y_2.js], Res.rows (rdsD y_2)]) (F := [rC a_121 c_122 y_8.dat.recov.1]) (by kernel_rfl) ?_
          refine jq (7 - (0 + 1)) (by omega) ⟨0 + 1, by omega, he_111, he_112, he_113, he_114, he_115, he_116, rfl, rfl, rfl⟩
        · have hrk : y_18.dat.recov = y_2.dat.recov := by simp only [hy_9, hy_14, hy_19, hy_24, hy_29, hy_34, hy_39, hy_50, hd_57, hy_64, hy_89, hy_97, hy_105]; exact ha2
          refine jF <| jA (jD (v := .slice a_109 7 7) he_116) <| jA (jD (v := nv 1) he_117) ?_
          refine kN fun hst => ?_
          obtain ⟨hr_126, hr_126b, -⟩ := row_some 0 rfl (by omega) hst
          refine jA (jk (i := 1) Tryz.underlying62 kd hr_126 hr_126b rfl rfl (by omega)) <| jK (LO.loadRK 0 (vs := [.slice y_18.a y_18.l.length y_18.c, str y_18.jt, iv y_18.js]) rfl rfl ke kd rfl rfl (by decide)) ?_
          refine jH rfl (jI [] Tryz.call43 rfl (Y_sRecov y_18 hz_20 hl_21) rfl (fun w hw => hw.seeRows 21 rfl)) ?_
          rintro _ _ ⟨_, ⟨a_127, c_128, rfl, rfl⟩, rfl⟩
          have hrn_129 := recov_len0 y_18.dat
          refine jA (jD (v := .tuple #[.slice a_127 y_18.dat.recov.1.length c_128, iv y_18.dat.recov.2]) rfl) <| jA (je (v := .slice a_127 y_18.dat.recov.1.length c_128) rfl rfl) <| jA (je (v := iv y_18.dat.recov.2) rfl rfl) <| jA (jG (v := .slice a_127 y_18.dat.recov.1.length c_128) rfl) <| jA (jG (v := iv y_18.dat.recov.2) rfl) <| jE <| jB <| jC <| jF <| jA (jD (v := .slice a_127 y_18.dat.recov.1.length c_128) rfl) ?_
          refine jA (jD (v := .slice a_73 y_2.dat.recov.1.length c_74) he_114) ?_
          refine jH rfl (jI [] Tryz.call34 rfl (C_sameCells a_127 a_73 c_128 c_74 y_18.dat.recov.1 y_2.dat.recov.1 (by omega)) rfl (fun w hw => ⟨hw.see (i := 0) rfl, hw.see (i := 5) rfl⟩)) ?_
          rintro _ _ ⟨_, ⟨rfl, rfl⟩, rfl⟩
          refine jA (jp rfl) <| jA (jD (v := .bool (!(decide (y_18.dat.recov.1 = y_2.dat.recov.1)))) rfl) ?_
          have h_130 : y_18.dat.recov.1 = y_2.dat.recov.1 := (by rw [hrk])
          refine jM rfl rfl rfl (cB (cN (dT h_130))) (jP (jU (jD (v := iv y_18.dat.recov.2) rfl))) ?_
          rintro _ _ ⟨rfl, rfl⟩
          refine jM rfl rfl rfl (cB (cN (dT h_130))) (jP (jU (jD (v := iv y_2.dat.recov.2) he_115))) ?_
          rintro _ _ ⟨rfl, rfl⟩
          refine jM rfl rfl rfl (cB (cN (dT h_130))) (jP (jU (kS rfl rfl))) ?_
          rintro _ _ ⟨rfl, rfl⟩
          refine jA (ji (v := .bool (!(decide (y_18.dat.recov.2 = y_2.dat.recov.2)))) (cB (cN (dT h_130))) rfl) <| jE <| jB ?_
          have h_131 : y_18.dat.recov.2 = y_2.dat.recov.2 := (by rw [hrk])
          refine jR (cB (cN (dT h_131))) <| jT <| jm <| jB <| jF <| jA (jD (v := nv 1) he_117) <| jA (jc (c := ((1 + 1 : Nat) : Int)) rfl rfl (wr (by omega))) <| jA (jG (v := iv ((1 + 1 : Nat) : Int)) rfl) <| jE <| kB [1, 1, 1, 1, 1, 1, 1, 1, 1, 1, 1, 1, 1, 1, 1, 1, 1, 1, 1, 1, 1, 1, 1, 1, 1, 1, 1, 1] (A := [Res.row (.slice a_109 7 7) 31 3 7 [.slice y_8.a y_8.l.length y_8.c, str y_8.jt, iv y_8.js, .slice y_18.a y_18.l.length y_18.c, str y_18.jt, iv y_18.js, .slice y_28.a y_28.l.length y_28.c, str y_28.jt, iv y_28.js, .slice y_33.a y_33.l.length y_33.c, str y_33.jt, iv y_33.js, .slice y_88.a y_88.l.length y_88.c, str y_88.jt, iv y_88.js, .slice y_96.a y_96.l.length y_96.c, str y_96.jt, iv y_96.js, .slice y_104.a y_104.l.length y_104.c, str y_104.jt, iv y_104.js], Res.rows (rdsD y_104), Res.rows (rdsD y_96), Res.rows (rdsD y_88), rC a_73 c_74 y_2.dat.recov.1, Res.row (.slice y_63.a y_63.l.length y_63.c) 60 3 y_63.l.length (y_63.l.flatMap encO), Res.rows (y_63.l.flatMap rdsO), bk b_67 31 [.slice y_63.a y_63.l.length y_63.c, str y_63.jt, iv y_63.js], Res.row (.slice a_61 1 1) 48 2 1 (([([97], [98])] : List Cell).flatMap encC), bk b_60 31 [.slice d_56.a d_56.l.length d_56.c, str (recText 1 ([([97], [98])] : List Cell)), iv d_56.js], Res.rows (rdsD d_56), Res.rows (rdsD y_49), bk b_42 31 [.slice y_38.a y_38.l.length y_38.c, str y_38.jt, iv y_38.js], Res.rows (rdsD y_38), bk b_37 31 [.slice y_33.a y_33.l.length y_33.c, str y_33.jt, iv y_33.js], Res.rows (rdsD y_33), bk b_32 31 [.slice y_28.a y_28.l.length y_28.c, str y_28.jt, iv y_28.js], Res.rows (rdsD y_28), bk b_27 31 [.slice y_23.a y_23.l.length y_23.c, str y_23.jt, iv y_23.js], Res.rows (rdsD y_23), bk b_22 31 [.slice y_18.a y_18.l.length y_18.c, str y_18.jt, iv y_18.js], Res.rows (rdsD y_18), bk b_17 31 [.slice y_13.a y_13.l.length y_13.c, str y_13.jt, iv y_13.js], Res.rows (rdsD y_13), bk b_12 31 [.slice y_8.a y_8.l.length y_8.c, str y_8.jt, iv y_8.js], Res.rows (rdsD y_8), bk b_7 31 [.slice y_2.a y_2.l.length y_2.c, str y_2.jt, iv y_2.js], Res.rows (rdsD y_2)]) (F := [rC a_127 c_128 y_18.dat.recov.1]) (by kernel_rfl) ?_
          refine jq (7 - (1 + 1)) (by omega) ⟨1 + 1, by omega, he_111, he_112, he_113, he_114, he_115, he_116, rfl, rfl, rfl⟩
        · have hrk : y_28.dat.recov = y_2.dat.recov := by simp only [hy_9, hy_14, hy_19, hy_24, hy_29, hy_34, hy_39, hy_50, hd_57, hy_64, hy_89, hy_97, hy_105]; exact ha3
          refine jF <| jA (jD (v := .slice a_109 7 7) he_116) <| jA (jD (v := nv 2) he_117) ?_
          refine kN fun hst => ?_
          obtain ⟨hr_132, hr_132b, -⟩ := row_some 0 rfl (by omega) hst
          refine jA (jk (i := 2) Tryz.underlying62 kd hr_132 hr_132b rfl rfl (by omega)) <| jK (LO.loadRK 0 (vs := [.slice y_28.a y_28.l.length y_28.c, str y_28.jt, iv y_28.js]) rfl rfl ke kd rfl rfl (by decide)) ?_
          refine jH rfl (jI [] Tryz.call43 rfl (Y_sRecov y_28 hz_30 hl_31) rfl (fun w hw => hw.seeRows 17 rfl)) ?_
          rintro _ _ ⟨_, ⟨a_133, c_134, rfl, rfl⟩, rfl⟩
          have hrn_135 := recov_len0 y_28.dat
          refine jA (jD (v := .tuple #[.slice a_133 y_28.dat.recov.1.length c_134, iv y_28.dat.recov.2]) rfl) <| jA (je (v := .slice a_133 y_28.dat.recov.1.length c_134) rfl rfl) <| jA (je (v := iv y_28.dat.recov.2) rfl rfl) <| jA (jG (v := .slice a_133 y_28.dat.recov.1.length c_134) rfl) <| jA (jG (v := iv y_28.dat.recov.2) rfl) <| jE <| jB <| jC <| jF <| jA (jD (v := .slice a_133 y_28.dat.recov.1.length c_134) rfl) ?_
          refine jA (jD (v := .slice a_73 y_2.dat.recov.1.length c_74) he_114) ?_
          refine jH rfl (jI [] Tryz.call34 rfl (C_sameCells a_133 a_73 c_134 c_74 y_28.dat.recov.1 y_2.dat.recov.1 (by omega)) rfl (fun w hw => ⟨hw.see (i := 0) rfl, hw.see (i := 5) rfl⟩)) ?_
          rintro _ _ ⟨_, ⟨rfl, rfl⟩, rfl⟩
          refine jA (jp rfl) <| jA (jD (v := .bool (!(decide (y_28.dat.recov.1 = y_2.dat.recov.1)))) rfl) ?_
          have h_136 : y_28.dat.recov.1 = y_2.dat.recov.1 := (by rw [hrk])
          refine jM rfl rfl rfl (cB (cN (dT h_136))) (jP (jU (jD (v := iv y_28.dat.recov.2) rfl))) ?_
          rintro _ _ ⟨rfl, rfl⟩
          refine jM rfl rfl rfl (cB (cN (dT h_136))) (jP (jU (jD (v := iv y_2.dat.recov.2) he_115))) ?_
          rintro _ _ ⟨rfl, rfl⟩
          refine jM rfl rfl rfl (cB (cN (dT h_136))) (jP (jU (kS rfl rfl))) ?_
          rintro _ _ ⟨rfl, rfl⟩
          refine jA (ji (v := .bool (!(decide (y_28.dat.recov.2 = y_2.dat.recov.2)))) (cB (cN (dT h_136))) rfl) <| jE <| jB ?_
          have h_137 : y_28.dat.recov.2 = y_2.dat.recov.2 := (by rw [hrk])
          refine jR (cB (cN (dT h_137))) <| jT <| jm <| jB <| jF <| jA (jD (v := nv 2) he_117) <| jA (jc (c := ((2 + 1 : Nat) : Int)) rfl rfl (wr (by omega))) <| jA (jG (v := iv ((2 + 1 : Nat) : Int)) rfl) <| jE <| kB [1, 1, 1, 1, 1, 1, 1, 1, 1, 1, 1, 1, 1, 1, 1, 1, 1, 1, 1, 1, 1, 1, 1, 1, 1, 1, 1, 1] (A := [Res.row (.slice a_109 7 7) 31 3 7 [.slice y_8.a y_8.l.length y_8.c, str y_8.jt, iv y_8.js, .slice y_18.a y_18.l.length y_18.c, str y_18.jt, iv y_18.js, .slice y_28.a y_28.l.length y_28.c, str y_28.jt, iv y_28.js, .slice y_33.a y_33.l.length y_33.c, str y_33.jt, iv y_33.js, .slice y_88.a y_88.l.length y_88.c, str y_88.jt, iv y_88.js, .slice y_96.a y_96.l.length y_96.c, str y_96.jt, iv y_96.js, .slice y_104.a y_104.l.length y_104.c, str y_104.jt, iv y_104.js], Res.rows (rdsD y_104), Res.rows (rdsD y_96), Res.rows (rdsD y_88), rC a_73 c_74 y_2.dat.recov.1, Res.row (.slice y_63.a y_63.l.length y_63.c) 60 3 y_63.l.length (y_63.l.flatMap encO), Res.rows (y_63.l.flatMap rdsO), bk b_67 31 [.slice y_63.a y_63.l.length y_63.c, str y_63.jt, iv y_63.js], Res.row (.slice a_61 1 1) 48 2 1 (([([97], [98])] : List Cell).flatMap encC), bk b_60 31 [.slice d_56.a d_56.l.length d_56.c, str (recText 1 ([([97], [98])] : List Cell)), iv d_56.js], Res.rows (rdsD d_56), Res.rows (rdsD y_49), bk b_42 31 [.slice y_38.a y_38.l.length y_38.c, str y_38.jt, iv y_38.js], Res.rows (rdsD y_38), bk b_37 31 [.slice y_33.a y_33.l.length y_33.c, str y_33.jt, iv y_33.js], Res.rows (rdsD y_33), bk b_32 31 [.slice y_28.a y_28.l.length y_28.c, str y_28.jt, iv y_28.js], Res.rows (rdsD y_28), bk b_27 31 [.slice y_23.a y_23.l.length y_23.c, str y_23.jt, iv y_23.js], Res.rows (rdsD y_23), bk b_22 31 [.slice y_18.a y_18.l.length y_18.c, str y_18.jt, iv y_18.js], Res.rows (rdsD y_18), bk b_17 31 [.slice y_13.a y_13.l.length y_13.c, str y_13.jt, iv y_13.js], Res.rows (rdsD y_13), bk b_12 31 [.slice y_8.a y_8.l.length y_8.c, str y_8.jt, iv y_8.js], Res.rows (rdsD y_8), bk b_7 31 [.slice y_2.a y_2.l.length y_2.c, str y_2.jt, iv y_2.js], Res.rows (rdsD y_2)]) (F := [rC a_133 c_134 y_28.dat.recov.1]) (by kernel_rfl) ?_
          refine jq (7 - (2 + 1)) (by omega) ⟨2 + 1, by omega, he_111, he_112, he_113, he_114, he_115, he_116, rfl, rfl, rfl⟩
        · have hrk : y_33.dat.recov = y_2.dat.recov := by simp only [hy_9, hy_14, hy_19, hy_24, hy_29, hy_34, hy_39, hy_50, hd_57, hy_64, hy_89, hy_97, hy_105]; exact ha4
          refine jF <| jA (jD (v := .slice a_109 7 7) he_116) <| jA (jD (v := nv 3) he_117) ?_
          refine kN fun hst => ?_
          obtain ⟨hr_138, hr_138b, -⟩ := row_some 0 rfl (by omega) hst
          refine jA (jk (i := 3) Tryz.underlying62 kd hr_138 hr_138b rfl rfl (by omega)) <| jK (LO.loadRK 0 (vs := [.slice y_33.a y_33.l.length y_33.c, str y_33.jt, iv y_33.js]) rfl rfl ke kd rfl rfl (by decide)) ?_
          refine jH rfl (jI [] Tryz.call43 rfl (Y_sRecov y_33 hz_35 hl_36) rfl (fun w hw => hw.seeRows 15 rfl)) ?_
          rintro _ _ ⟨_, ⟨a_139, c_140, rfl, rfl⟩, rfl⟩
          have hrn_141 := recov_len0 y_33.dat
          refine jA (jD (v := .tuple #[.slice a_139 y_33.dat.recov.1.length c_140, iv y_33.dat.recov.2]) rfl) <| jA (je (v := .slice a_139 y_33.dat.recov.1.length c_140) rfl rfl) <| jA (je (v := iv y_33.dat.recov.2) rfl rfl) <| jA (jG (v := .slice a_139 y_33.dat.recov.1.length c_140) rfl) <| jA (jG (v := iv y_33.dat.recov.2) rfl) <| jE <| jB <| jC <| jF <| jA (jD (v := .slice a_139 y_33.dat.recov.1.length c_140) rfl) ?_
          refine jA (jD (v := .slice a_73 y_2.dat.recov.1.length c_74) he_114) ?_
          refine jH rfl (jI [] Tryz.call34 rfl (C_sameCells a_139 a_73 c_140 c_74 y_33.dat.recov.1 y_2.dat.recov.1 (by omega)) rfl (fun w hw => ⟨hw.see (i := 0) rfl, hw.see (i := 5) rfl⟩)) ?_
          rintro _ _ ⟨_, ⟨rfl, rfl⟩, rfl⟩
          refine jA (jp rfl) <| jA (jD (v := .bool (!(decide (y_33.dat.recov.1 = y_2.dat.recov.1)))) rfl) ?_
          have h_142 : y_33.dat.recov.1 = y_2.dat.recov.1 := (by rw [hrk])
          refine jM rfl rfl rfl (cB (cN (dT h_142))) (jP (jU (jD (v := iv y_33.dat.recov.2) rfl))) ?_
          rintro _ _ ⟨rfl, rfl⟩
          refine jM rfl rfl rfl (cB (cN (dT h_142))) (jP (jU (jD (v := iv y_2.dat.recov.2) he_115))) ?_
          rintro _ _ ⟨rfl, rfl⟩
          refine jM rfl rfl rfl (cB (cN (dT h_142))) (jP (jU (kS rfl rfl))) ?_
          rintro _ _ ⟨rfl, rfl⟩
          refine jA (ji (v := .bool (!(decide (y_33.dat.recov.2 = y_2.dat.recov.2)))) (cB (cN (dT h_142))) rfl) <| jE <| jB ?_
          have h_143 : y_33.dat.recov.2 = y_2.dat.recov.2 := (by rw [hrk])
          refine jR (cB (cN (dT h_143))) <| jT <| jm <| jB <| jF <| jA (jD (v := nv 3) he_117) <| jA (jc (c := ((3 + 1 : Nat) : Int)) rfl rfl (wr (by omega))) <| jA (jG (v := iv ((3 + 1 : Nat) : Int)) rfl) <| jE <| kB [1, 1, 1, 1, 1, 1, 1, 1, 1, 1, 1, 1, 1, 1, 1, 1, 1, 1, 1, 1, 1, 1, 1, 1, 1, 1, 1, 1] (A := [Res.row (.slice a_109 7 7) 31 3 7 [.slice y_8.a y_8.l.length y_8.c, str y_8.jt, iv y_8.js, .slice y_18.a y_18.l.length y_18.c, str y_18.jt, iv y_18.js, .slice y_28.a y_28.l.length y_28.c, str y_28.jt, iv y_28.js, .slice y_33.a y_33.l.length y_33.c, str y_33.jt, iv y_33.js, .slice y_88.a y_88.l.length y_88.c, str y_88.jt, iv y_88.js, .slice y_96.a y_96.l.length y_96.c, str y_96.jt, iv y_96.js, .slice y_104.a y_104.l.length y_104.c, str y_104.jt, iv y_104.js], Res.rows (rdsD y_104), Res.rows (rdsD y_96), Res.rows (rdsD y_88), rC a_73 c_74 y_2.dat.recov.1, Res.row (.slice y_63.a y_63.l.length y_63.c) 60 3 y_63.l.length (y_63.l.flatMap encO), Res.rows (y_63.l.flatMap rdsO), bk b_67 31 [.slice y_63.a y_63.l.length y_63.c, str y_63.jt, iv y_63.js], Res.row (.slice a_61 1 1) 48 2 1 (([([97], [98])] : List Cell).flatMap encC), bk b_60 31 [.slice d_56.a d_56.l.length d_56.c, str (recText 1 ([([97], [98])] : List Cell)), iv d_56.js], Res.rows (rdsD d_56), Res.rows (rdsD y_49), bk b_42 31 [.slice y_38.a y_38.l.length y_38.c, str y_38.jt, iv y_38.js], Res.rows (rdsD y_38), bk b_37 31 [.slice y_33.a y_33.l.length y_33.c, str y_33.jt, iv y_33.js], Res.rows (rdsD y_33), bk b_32 31 [.slice y_28.a y_28.l.length y_28.c, str y_28.jt, iv y_28.js], Res.rows (rdsD y_28), bk b_27 31 [.slice y_23.a y_23.l.length y_23.c, str y_23.jt, iv y_23.js], Res.rows (rdsD y_23), bk b_22 31 [.slice y_18.a y_18.l.length y_18.c, str y_18.jt, iv y_18.js], Res.rows (rdsD y_18), bk b_17 31 [.slice y_13.a y_13.l.length y_13.c, str y_13.jt, iv y_13.js], Res.rows (rdsD y_13), bk b_12 31 [.slice y_8.a y_8.l.length y_8.c, str y_8.jt, iv y_8.js], Res.rows (rdsD y_8), bk b_7 31 [.slice y_2.a y_2.l.length y_2.c, str y_2.jt, iv y_2.js], Res.rows (rdsD y_2)]) (F := [rC a_139 c_140 y_33.dat.recov.1]) (by kernel_rfl) ?_
          refine jq (7 - (3 + 1)) (by omega) ⟨3 + 1, by omega, he_111, he_112, he_113, he_114, he_115, he_116, rfl, rfl, rfl⟩
        · have hrk : y_88.dat.recov = y_2.dat.recov := by simp only [hy_9, hy_14, hy_19, hy_24, hy_29, hy_34, hy_39, hy_50, hd_57, hy_64, hy_89, hy_97, hy_105]; exact ha5
          refine jF <| jA (jD (v := .slice a_109 7 7) he_116) <| jA (jD (v := nv 4) he_117) ?_
          refine kN fun hst => ?_
          obtain ⟨hr_144, hr_144b, -⟩ := row_some 0 rfl (by omega) hst
          refine jA (jk (i := 4) Tryz.underlying62 kd hr_144 hr_144b rfl rfl (by omega)) <| jK (LO.loadRK 0 (vs := [.slice y_88.a y_88.l.length y_88.c, str y_88.jt, iv y_88.js]) rfl rfl ke kd rfl rfl (by decide)) ?_
          refine jH rfl (jI [] Tryz.call43 rfl (Y_sRecov y_88 hz_90 hl_91) rfl (fun w hw => hw.seeRows 3 rfl)) ?_
          rintro _ _ ⟨_, ⟨a_145, c_146, rfl, rfl⟩, rfl⟩
          have hrn_147 := recov_len0 y_88.dat
          refine jA (jD (v := .tuple #[.slice a_145 y_88.dat.recov.1.length c_146, iv y_88.dat.recov.2]) rfl) <| jA (je (v := .slice a_145 y_88.dat.recov.1.length c_146) rfl rfl) <| jA (je (v := iv y_88.dat.recov.2) rfl rfl) <| jA (jG (v := .slice a_145 y_88.dat.recov.1.length c_146) rfl) <| jA (jG (v := iv y_88.dat.recov.2) rfl) <| jE <| jB <| jC <| jF <| jA (jD (v := .slice a_145 y_88.dat.recov.1.length c_146) rfl) ?_
          refine jA (jD (v := .slice a_73 y_2.dat.recov.1.length c_74) he_114) ?_
          refine jH rfl (jI [] Tryz.call34 rfl (C_sameCells a_145 a_73 c_146 c_74 y_88.dat.recov.1 y_2.dat.recov.1 (by omega)) rfl (fun w hw => ⟨hw.see (i := 0) rfl, hw.see (i := 5) rfl⟩)) ?_
          rintro _ _ ⟨_, ⟨rfl, rfl⟩, rfl⟩
          refine jA (jp rfl) <| jA (jD (v := .bool (!(decide (y_88.dat.recov.1 = y_2.dat.recov.1)))) rfl) ?_
          have h_148 : y_88.dat.recov.1 = y_2.dat.recov.1 := (by rw [hrk])
          refine jM rfl rfl rfl (cB (cN (dT h_148))) (jP (jU (jD (v := iv y_88.dat.recov.2) rfl))) ?_
          rintro _ _ ⟨rfl, rfl⟩
          refine jM rfl rfl rfl (cB (cN (dT h_148))) (jP (jU (jD (v := iv y_2.dat.recov.2) he_115))) ?_
          rintro _ _ ⟨rfl, rfl⟩
          refine jM rfl rfl rfl (cB (cN (dT h_148))) (jP (jU (kS rfl rfl))) ?_
          rintro _ _ ⟨rfl, rfl⟩
          refine jA (ji (v := .bool (!(decide (y_88.dat.recov.2 = y_2.dat.recov.2)))) (cB (cN (dT h_148))) rfl) <| jE <| jB ?_
          have h_149 : y_88.dat.recov.2 = y_2.dat.recov.2 := (by rw [hrk])
          refine jR (cB (cN (dT h_149))) <| jT <| jm <| jB <| jF <| jA (jD (v := nv 4) he_117) <| jA (jc (c := ((4 + 1 : Nat) : Int)) rfl rfl (wr (by omega))) <| jA (jG (v := iv ((4 + 1 : Nat) : Int)) rfl) <| jE <| kB [1, 1, 1, 1, 1, 1, 1, 1, 1, 1, 1, 1, 1, 1, 1, 1, 1, 1, 1, 1, 1, 1, 1, 1, 1, 1, 1, 1] (A := [Res.row (.slice a_109 7 7) 31 3 7 [.slice y_8.a y_8.l.length y_8.c, str y_8.jt, iv y_8.js, .slice y_18.a y_18.l.length y_18.c, str y_18.jt, iv y_18.js, .slice y_28.a y_28.l.length y_28.c, str y_28.jt, iv y_28.js, .slice y_33.a y_33.l.length y_33.c, str y_33.jt, iv y_33.js, .slice y_88.a y_88.l.length y_88.c, str y_88.jt, iv y_88.js, .slice y_96.a y_96.l.length y_96.c, str y_96.jt, iv y_96.js, .slice y_104.a y_104.l.length y_104.c, str y_104.jt, iv y_104.js], Res.rows (rdsD y_104), Res.rows (rdsD y_96), Res.rows (rdsD y_88), rC a_73 c_74 y_2.dat.recov.1, Res.row (.slice y_63.a y_63.l.length y_63.c) 60 3 y_63.l.length (y_63.l.flatMap encO), Res.rows (y_63.l.flatMap rdsO), bk b_67 31 [.slice y_63.a y_63.l.length y_63.c, str y_63.jt, iv y_63.js], Res.row (.slice a_61 1 1) 48 2 1 (([([97], [98])] : List Cell).flatMap encC), bk b_60 31 [.slice d_56.a d_56.l.length d_56.c, str (recText 1 ([([97], [98])] : List Cell)), iv d_56.js], Res.rows (rdsD d_56), Res.rows (rdsD y_49), bk b_42 31 [.slice y_38.a y_38.l.length y_38.c, str y_38.jt, iv y_38.js], Res.rows (rdsD y_38), bk b_37 31 [.slice y_33.a y_33.l.length y_33.c, str y_33.jt, iv y_33.js], Res.rows (rdsD y_33), bk b_32 31 [.slice y_28.a y_28.l.length y_28.c, str y_28.jt, iv y_28.js], Res.rows (rdsD y_28), bk b_27 31 [.slice y_23.a y_23.l.length y_23.c, str y_23.jt, iv y_23.js], Res.rows (rdsD y_23), bk b_22 31 [.slice y_18.a y_18.l.length y_18.c, str y_18.jt, iv y_18.js], Res.rows (rdsD y_18), bk b_17 31 [.slice y_13.a y_13.l.length y_13.c, str y_13.jt, iv y_13.js], Res.rows (rdsD y_13), bk b_12 31 [.slice y_8.a y_8.l.length y_8.c, str y_8.jt, iv y_8.js], Res.rows (rdsD y_8), bk b_7 31 [.slice y_2.a y_2.l.length y_2.c, str y_2.jt, iv y_2.js], Res.rows (rdsD y_2)]) (F := [rC a_145 c_146 y_88.dat.recov.1]) (by kernel_rfl) ?_
          refine jq (7 - (4 + 1)) (by omega) ⟨4 + 1, by omega, he_111, he_112, he_113, he_114, he_115, he_116, rfl, rfl, rfl⟩
        · have hrk : y_96.dat.recov = y_2.dat.recov := by simp only [hy_9, hy_14, hy_19, hy_24, hy_29, hy_34, hy_39, hy_50, hd_57, hy_64, hy_89, hy_97, hy_105]; exact ha6
          refine jF <| jA (jD (v := .slice a_109 7 7) he_116) <| jA (jD (v := nv 5) he_117) ?_
          refine kN fun hst => ?_
          obtain ⟨hr_150, hr_150b, -⟩ := row_some 0 rfl (by omega) hst
          refine jA (jk (i := 5) Tryz.underlying62 kd hr_150 hr_150b rfl rfl (by omega)) <| jK (LO.loadRK 0 (vs := [.slice y_96.a y_96.l.length y_96.c, str y_96.jt, iv y_96.js]) rfl rfl ke kd rfl rfl (by decide)) ?_
          refine jH rfl (jI [] Tryz.call43 rfl (Y_sRecov y_96 hz_98 hl_99) rfl (fun w hw => hw.seeRows 2 rfl)) ?_
          rintro _ _ ⟨_, ⟨a_151, c_152, rfl, rfl⟩, rfl⟩
          have hrn_153 := recov_len0 y_96.dat
          refine jA (jD (v := .tuple #[.slice a_151 y_96.dat.recov.1.length c_152, iv y_96.dat.recov.2]) rfl) <| jA (je (v := .slice a_151 y_96.dat.recov.1.length c_152) rfl rfl) <| jA (je (v := iv y_96.dat.recov.2) rfl rfl) <| jA (jG (v := .slice a_151 y_96.dat.recov.1.length c_152) rfl) <| jA (jG (v := iv y_96.dat.recov.2) rfl) <| jE <| jB <| jC <| jF <| jA (jD (v := .slice a_151 y_96.dat.recov.1.length c_152) rfl) ?_
          refine jA (jD (v := .slice a_73 y_2.dat.recov.1.length c_74) he_114) ?_
          refine jH rfl (jI [] Tryz.call34 rfl (C_sameCells a_151 a_73 c_152 c_74 y_96.dat.recov.1 y_2.dat.recov.1 (by omega)) rfl (fun w hw => ⟨hw.see (i := 0) rfl, hw.see (i := 5) rfl⟩)) ?_
          rintro _ _ ⟨_, ⟨rfl, rfl⟩, rfl⟩
          refine jA (jp rfl) <| jA (jD (v := .bool (!(decide (y_96.dat.recov.1 = y_2.dat.recov.1)))) rfl) ?_
          have h_154 : y_96.dat.recov.1 = y_2.dat.recov.1 := (by rw [hrk])
          refine jM rfl rfl rfl (cB (cN (dT h_154))) (jP (jU (jD (v := iv y_96.dat.recov.2) rfl))) ?_
          rintro _ _ ⟨rfl, rfl⟩
          refine jM rfl rfl rfl (cB (cN (dT h_154))) (jP (jU (jD (v := iv y_2.dat.recov.2) he_115))) ?_
          rintro _ _ ⟨rfl, rfl⟩
          refine jM rfl rfl rfl (cB (cN (dT h_154))) (jP (jU (kS rfl rfl))) ?_
          rintro _ _ ⟨rfl, rfl⟩
          refine jA (ji (v := .bool (!(decide (y_96.dat.recov.2 = y_2.dat.recov.2)))) (cB (cN (dT h_154))) rfl) <| jE <| jB ?_
          have h_155 : y_96.dat.recov.2 = y_2.dat.recov.2 := (by rw [hrk])
          refine jR (cB (cN (dT h_155))) <| jT <| jm <| jB <| jF <| jA (jD (v := nv 5) he_117) <| jA (jc (c := ((5 + 1 : Nat) : Int)) rfl rfl (wr (by omega))) <| jA (jG (v := iv ((5 + 1 : Nat) : Int)) rfl) <| jE <| kB [1, 1, 1, 1, 1, 1, 1, 1, 1, 1, 1, 1, 1, 1, 1, 1, 1, 1, 1, 1, 1, 1, 1, 1, 1, 1, 1, 1] (A := [Res.row (.slice a_109 7 7) 31 3 7 [.slice y_8.a y_8.l.length y_8.c, str y_8.jt, iv y_8.js, .slice y_18.a y_18.l.length y_18.c, str y_18.jt, iv y_18.js, .slice y_28.a y_28.l.length y_28.c, str y_28.jt, iv y_28.js, .slice y_33.a y_33.l.length y_33.c, str y_33.jt, iv y_33.js, .slice y_88.a y_88.l.length y_88.c, str y_88.jt, iv y_88.js, .slice y_96.a y_96.l.length y_96.c, str y_96.jt, iv y_96.js, .slice y_104.a y_104.l.length y_104.c, str y_104.jt, iv y_104.js], Res.rows (rdsD y_104), Res.rows (rdsD y_96), Res.rows (rdsD y_88), rC a_73 c_74 y_2.dat.recov.1, Res.row (.slice y_63.a y_63.l.length y_63.c) 60 3 y_63.l.length (y_63.l.flatMap encO), Res.rows (y_63.l.flatMap rdsO), bk b_67 31 [.slice y_63.a y_63.l.length y_63.c, str y_63.jt, iv y_63.js], Res.row (.slice a_61 1 1) 48 2 1 (([([97], [98])] : List Cell).flatMap encC), bk b_60 31 [.slice d_56.a d_56.l.length d_56.c, str (recText 1 ([([97], [98])] : List Cell)), iv d_56.js], Res.rows (rdsD d_56), Res.rows (rdsD y_49), bk b_42 31 [.slice y_38.a y_38.l.length y_38.c, str y_38.jt, iv y_38.js], Res.rows (rdsD y_38), bk b_37 31 [.slice y_33.a y_33.l.length y_33.c, str y_33.jt, iv y_33.js], Res.rows (rdsD y_33), bk b_32 31 [.slice y_28.a y_28.l.length y_28.c, str y_28.jt, iv y_28.js], Res.rows (rdsD y_28), bk b_27 31 [.slice y_23.a y_23.l.length y_23.c, str y_23.jt, iv y_23.js], Res.rows (rdsD y_23), bk b_22 31 [.slice y_18.a y_18.l.length y_18.c, str y_18.jt, iv y_18.js], Res.rows (rdsD y_18), bk b_17 31 [.slice y_13.a y_13.l.length y_13.c, str y_13.jt, iv y_13.js], Res.rows (rdsD y_13), bk b_12 31 [.slice y_8.a y_8.l.length y_8.c, str y_8.jt, iv y_8.js], Res.rows (rdsD y_8), bk b_7 31 [.slice y_2.a y_2.l.length y_2.c, str y_2.jt, iv y_2.js], Res.rows (rdsD y_2)]) (F := [rC a_151 c_152 y_96.dat.recov.1]) (by kernel_rfl) ?_
          refine jq (7 - (5 + 1)) (by omega) ⟨5 + 1, by omega, he_111, he_112, he_113, he_114, he_115, he_116, rfl, rfl, rfl⟩
        have hrk : y_104.dat.recov = y_2.dat.recov := by simp only [hy_9, hy_14, hy_19, hy_24, hy_29, hy_34, hy_39, hy_50, hd_57, hy_64, hy_89, hy_97, hy_105]; exact ha7
        refine jF <| jA (jD (v := .slice a_109 7 7) he_116) <| jA (jD (v := nv 6) he_117) ?_
        refine kN fun hst => ?_
        obtain ⟨hr_156, hr_156b, -⟩ := row_some 0 rfl (by omega) hst
        refine jA (jk (i := 6) Tryz.underlying62 kd hr_156 hr_156b rfl rfl (by omega)) <| jK (LO.loadRK 0 (vs := [.slice y_104.a y_104.l.length y_104.c, str y_104.jt, iv y_104.js]) rfl rfl ke kd rfl rfl (by decide)) ?_
        refine jH rfl (jI [] Tryz.call43 rfl (Y_sRecov y_104 hz_106 hl_107) rfl (fun w hw => hw.seeRows 1 rfl)) ?_
        rintro _ _ ⟨_, ⟨a_157, c_158, rfl, rfl⟩, rfl⟩
        have hrn_159 := recov_len0 y_104.dat
        refine jA (jD (v := .tuple #[.slice a_157 y_104.dat.recov.1.length c_158, iv y_104.dat.recov.2]) rfl) <| jA (je (v := .slice a_157 y_104.dat.recov.1.length c_158) rfl rfl) <| jA (je (v := iv y_104.dat.recov.2) rfl rfl) <| jA (jG (v := .slice a_157 y_104.dat.recov.1.length c_158) rfl) <| jA (jG (v := iv y_104.dat.recov.2) rfl) <| jE <| jB <| jC <| jF <| jA (jD (v := .slice a_157 y_104.dat.recov.1.length c_158) rfl) ?_
        refine jA (jD (v := .slice a_73 y_2.dat.recov.1.length c_74) he_114) ?_
        refine jH rfl (jI [] Tryz.call34 rfl (C_sameCells a_157 a_73 c_158 c_74 y_104.dat.recov.1 y_2.dat.recov.1 (by omega)) rfl (fun w hw => ⟨hw.see (i := 0) rfl, hw.see (i := 5) rfl⟩)) ?_
        rintro _ _ ⟨_, ⟨rfl, rfl⟩, rfl⟩
        refine jA (jp rfl) <| jA (jD (v := .bool (!(decide (y_104.dat.recov.1 = y_2.dat.recov.1)))) rfl) ?_
        have h_160 : y_104.dat.recov.1 = y_2.dat.recov.1 := (by rw [hrk])
        refine jM rfl rfl rfl (cB (cN (dT h_160))) (jP (jU (jD (v := iv y_104.dat.recov.2) rfl))) ?_
        rintro _ _ ⟨rfl, rfl⟩
        refine jM rfl rfl rfl (cB (cN (dT h_160))) (jP (jU (jD (v := iv y_2.dat.recov.2) he_115))) ?_
        rintro _ _ ⟨rfl, rfl⟩
        refine jM rfl rfl rfl (cB (cN (dT h_160))) (jP (jU (kS rfl rfl))) ?_
        rintro _ _ ⟨rfl, rfl⟩
        refine jA (ji (v := .bool (!(decide (y_104.dat.recov.2 = y_2.dat.recov.2)))) (cB (cN (dT h_160))) rfl) <| jE <| jB ?_
        have h_161 : y_104.dat.recov.2 = y_2.dat.recov.2 := (by rw [hrk])
        refine jR (cB (cN (dT h_161))) <| jT <| jm <| jB <| jF <| jA (jD (v := nv 6) he_117) <| jA (jc (c := ((6 + 1 : Nat) : Int)) rfl rfl (wr (by omega))) <| jA (jG (v := iv ((6 + 1 : Nat) : Int)) rfl) <| jE <| kB [1, 1, 1, 1, 1, 1, 1, 1, 1, 1, 1, 1, 1, 1, 1, 1, 1, 1, 1, 1, 1, 1, 1, 1, 1, 1, 1, 1] (A := [Res.row (.slice a_109 7 7) 31 3 7 [.slice y_8.a y_8.l.length y_8.c, str y_8.jt, iv y_8.js, .slice y_18.a y_18.l.length y_18.c, str y_18.jt, iv y_18.js, .slice y_28.a y_28.l.length y_28.c, str y_28.jt, iv y_28.js, .slice y_33.a y_33.l.length y_33.c, str y_33.jt, iv y_33.js, .slice y_88.a y_88.l.length y_88.c, str y_88.jt, iv y_88.js, .slice y_96.a y_96.l.length y_96.c, str y_96.jt, iv y_96.js, .slice y_104.a y_104.l.length y_104.c, str y_104.jt, iv y_104.js], Res.rows (rdsD y_104), Res.rows (rdsD y_96), Res.rows (rdsD y_88), rC a_73 c_74 y_2.dat.recov.1, Res.row (.slice y_63.a y_63.l.length y_63.c) 60 3 y_63.l.length (y_63.l.flatMap encO), Res.rows (y_63.l.flatMap rdsO), bk b_67 31 [.slice y_63.a y_63.l.length y_63.c, str y_63.jt, iv y_63.js], Res.row (.slice a_61 1 1) 48 2 1 (([([97], [98])] : List Cell).flatMap encC), bk b_60 31 [.slice d_56.a d_56.l.length d_56.c, str (recText 1 ([([97], [98])] : List Cell)), iv d_56.js], Res.rows (rdsD d_56), Res.rows (rdsD y_49), bk b_42 31 [.slice y_38.a y_38.l.length y_38.c, str y_38.jt, iv y_38.js], Res.rows (rdsD y_38), bk b_37 31 [.slice y_33.a y_33.l.length y_33.c, str y_33.jt, iv y_33.js], Res.rows (rdsD y_33), bk b_32 31 [.slice y_28.a y_28.l.length y_28.c, str y_28.jt, iv y_28.js], Res.rows (rdsD y_28), bk b_27 31 [.slice y_23.a y_23.l.length y_23.c, str y_23.jt, iv y_23.js], Res.rows (rdsD y_23), bk b_22 31 [.slice y_18.a y_18.l.length y_18.c, str y_18.jt, iv y_18.js], Res.rows (rdsD y_18), bk b_17 31 [.slice y_13.a y_13.l.length y_13.c, str y_13.jt, iv y_13.js], Res.rows (rdsD y_13), bk b_12 31 [.slice y_8.a y_8.l.length y_8.c, str y_8.jt, iv y_8.js], Res.rows (rdsD y_8), bk b_7 31 [.slice y_2.a y_2.l.length y_2.c, str y_2.jt, iv y_2.js], Res.rows (rdsD y_2)]) (F := [rC a_157 c_158 y_104.dat.recov.1]) (by kernel_rfl) ?_
        refine jq (7 - (6 + 1)) (by omega) ⟨6 + 1, by omega, he_111, he_112, he_113, he_114, he_115, he_116, rfl, rfl, rfl⟩
      refine jR (cB h_119) <| jx <| jb <| jb <| jy <| jB <| jC <| jF <| jA (jD (v := .bool ((y_2.dat.folded).2)) he_113) <| jA (jD (v := .bool ((y_2.dat.foldB).2)) he_111) ?_
      refine jA (jD (v := .bool ((y_2.dat.foldB).2)) rfl) <| jS (b := false) rfl rfl rfl (cB h_119) <| jA (ji (v := .bool false) (cB h_119) rfl) <| jA (PO.eqlB gJ rfl rfl) <| jA (jG (v := .bool (decide (((y_2.dat.folded).2) = false))) rfl) <| jE <| jB <| jN ?_
      have h_162 : ((y_2.dat.folded).2) = false := (by rw [folded_snd, h_119] <;> rfl)
      refine jV (.inl rfl) rfl (jJ (v := .bool true) (cB (dT h_162))) (List.nil_sublist _) ?_
      exact ⟨rfl, rfl⟩
    refine jS (b := false) rfl rfl rfl (cB (dF h_118)) <| jA (ji (v := .bool false) (cB (dF h_118)) rfl) <| jE <| jB <| jR (cB rfl) <| jx <| jb <| jb <| jy <| jB ?_
    refine jC <| jF <| jA (jD (v := .bool ((y_2.dat.folded).2)) he_113) <| jA (jD (v := .bool ((y_2.dat.foldB).2)) he_111) <| jA (jD (v := .bool ((y_2.dat.foldB).2)) rfl) ?_
    rcases Bool.eq_false_or_eq_true ((y_2.dat.foldB).2) with h_163 | h_163
    · obtain ⟨ha1, ha2, ha3, ha4, ha5, ha6, ha7⟩ := folds_all h_72 h_163
      refine jM rfl rfl rfl (cB h_163) (jP (jU (jD (v := .bool ((y_8.dat.foldE).2)) he_112))) ?_
      rintro _ _ ⟨rfl, rfl⟩
      refine jA (jh (v := .bool ((y_8.dat.foldE).2)) (cB h_163) rfl) <| jA (PO.eqlB gJ rfl rfl) <| jA (jG (v := .bool (decide (((y_2.dat.folded).2) = ((y_8.dat.foldE).2)))) rfl) <| jE <| jB <| jN ?_
      have h_164 : ((y_2.dat.folded).2) = ((y_8.dat.foldE).2) := (by rw [folded_snd, h_163]; simp only [Bool.true_and, hy_9, hy_14, hy_19, hy_24, hy_29, hy_34, hy_39, hy_50, hd_57, hy_64, hy_89, hy_97, hy_105])
      refine jV (.inl rfl) rfl (jJ (v := .bool true) (cB (dT h_164))) (List.nil_sublist _) ?_
      exact ⟨rfl, rfl⟩
    refine jS (b := false) rfl rfl rfl (cB h_163) <| jA (ji (v := .bool false) (cB h_163) rfl) <| jA (PO.eqlB gJ rfl rfl) <| jA (jG (v := .bool (decide (((y_2.dat.folded).2) = false))) rfl) <| jE <| jB <| jN ?_
    have h_165 : ((y_2.dat.folded).2) = false := (by rw [folded_snd, h_163] <;> rfl)
    refine jV (.inl rfl) rfl (jJ (v := .bool true) (cB (dT h_165))) (List.nil_sublist _) ?_
    exact ⟨rfl, rfl⟩
  have hfb := folded_bad h_72
  have hfb2 : (y_2.dat.folded).2 = false := by rw [hfb]
  refine jW (cB (cN h_72)) <| jC <| jF <| jA (jD (v := .bool ((y_2.dat.folded).2)) rfl) <| jA (jp rfl) <| jA (jD (v := .bool (!((y_2.dat.folded).2))) rfl) <| jM rfl rfl rfl (cB (cN hfb2)) (jP (jO 9 (vs := [.slice y_33.a y_33.l.length y_33.c, str y_33.jt, iv y_33.js]) rfl rfl ke kd rfl rfl)) ?_
  rintro _ _ ⟨rfl, rfl⟩
  refine jM rfl rfl rfl (cB (cN hfb2)) (jP (jO 21 (vs := [.slice y_2.a y_2.l.length y_2.c, str y_2.jt, iv y_2.js]) rfl rfl ke kd rfl rfl)) ?_
  rintro _ _ ⟨rfl, rfl⟩
  refine jM rfl rfl rfl (cB (cN hfb2)) (jI [] Tryz.call39 rfl (Y_sameDisk y_33 y_2 hl_36) rfl (fun w hw => ⟨hw.seeRows 10 rfl, hw.seeRows 22 rfl⟩)) ?_
  rintro _ _ ⟨_, ⟨rfl, rfl⟩, rfl⟩
  refine jA (jh (v := .bool (decide (y_33.dat = y_2.dat))) (cB (cN hfb2)) rfl) <| jA (jG (v := .bool (decide (y_33.dat = y_2.dat))) rfl) <| jE <| jB <| jN <| jX ?_
  have h_166 : y_33.dat = y_2.dat := (by simp only [hy_9, hy_14, hy_19, hy_24, hy_29, hy_34, hy_39, hy_50, hd_57, hy_64, hfb])
  refine jV (.inl rfl) rfl (jJ (v := .bool true) (cB (dT h_166))) (List.nil_sublist _) ?_
  exact ⟨rfl, rfl⟩

end Go.Proofs.YtjncpgcccgdeiaaGreatDoor
