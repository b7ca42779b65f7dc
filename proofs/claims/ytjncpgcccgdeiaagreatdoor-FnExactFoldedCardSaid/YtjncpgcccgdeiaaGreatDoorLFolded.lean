/-
  laws.FnExactFolded walked: it returns true.
-/
import Derived.Test.YtjncpgcccgdeiaaGreatDoorS59FOLDS
set_option linter.unusedSimpArgs false
set_option linter.unusedVariables false
set_option linter.unnecessarySimpa false
namespace Go.Proofs.YtjncpgcccgdeiaaGreatDoor
open Go Go.RowKit
attribute [local irreducible] JL JC JQ JO LO PO JA JX Ct

set_option maxRecDepth 4000 in
set_option maxHeartbeats 2000000 in
theorem L_Folded (d : DX) (hz : d.dat.okz) :
    Ct Tryz.prog 6 [.agg #[.slice d.a d.l.length d.c, str d.jt, .int .i64 d.js]] [] (fun w => SeesAE w (rdsD d) ∧ HexOk w) (fun v A' => v = .bool true ∧ A' = []) := by
  refine Ct.introL Tryz.func6 rfl Tryz.ntmps6 (lb rfl) fun w0 hpre hlow => ?_
  refine jC <| jF ?_
  refine jH rfl (kG (cs := [.slice d.a d.l.length d.c, str d.jt, iv d.js]) rfl rfl) ?_
  rintro _ _ ⟨b_1, rfl, rfl⟩
  refine jA (jG (v := .bool false) rfl) <| jE <| jB <| jC <| jF <| jA (jG (v := iv 1048576) rfl) <| jE <| jB <| jC <| jF ?_
  refine jK (jO 0 (vs := [.slice d.a d.l.length d.c, str d.jt, iv d.js]) rfl rfl gE gF rfl rfl) <| jA (jD (v := iv 1048576) rfl) ?_
  refine jH rfl (jI [] Tryz.call11 rfl (C_szDisk d 1048576 (by omega) (by omega) hz) rfl (fun w hw => hw.seeOutAE hpre.1 nMA)) ?_
  rintro _ _ ⟨_, ⟨rfl, rfl⟩, rfl⟩
  have hle_2 := szDiskF_le d.dat 1048576 (by omega)
  refine jA (jG (v := iv (szDiskF d.dat 1048576)) rfl) <| jE <| jB <| jC <| jC <| jF <| jA (jD (v := iv (szDiskF d.dat 1048576)) rfl) <| jA (jl rfl rfl) <| jE <| jB ?_
  by_cases h_3 : (szDiskF d.dat 1048576) < 0
  · refine jW (cB (dT h_3)) <| jC <| jF <| jA (jG (v := .bool true) rfl) <| jE <| jB <| jN <| jX <| jV (.inl rfl) rfl (jJ (v := .bool true) rfl) (List.nil_sublist _) ?_
    exact ⟨rfl, rfl⟩
  obtain ⟨hl, hjl, hct, hjt⟩ := szDiskF_all (n := 1048576) (by omega) (by omega) h_3
  have hlB : d.dat.lim 1000000000 := ⟨Nat.le_trans hl.l0 (by omega), fun s_ hs_ => (hl.l1 s_ hs_).mono (by omega)⟩
  have hcB : cntV cntOd d.dat.slots ≤ 7340032 := by omega
  refine jR (cB (dF h_3)) <| jT <| jB <| jC <| jF <| jK (jO 0 (vs := [.slice d.a d.l.length d.c, str d.jt, iv d.js]) rfl rfl gE gF rfl rfl) ?_
  refine jH rfl (jI [] Tryz.call13 rfl (C_toDisk d hl) rfl (fun w hw => hw.seeOutAE hpre.1 nMA)) ?_
  rintro _ _ ⟨_, ⟨y_4, hy_5, rfl, rfl⟩, rfl⟩
  have hzy_6 : y_4.dat.okz := by rw [hy_5]; exact hz
  have hl_7 : y_4.dat.lim 1000000000 := by rw [hy_5]; exact hlB
  have hc_8 : cntV cntOd y_4.dat.slots ≤ 7340032 := by rw [hy_5]; exact hcB
  have hz_9 : cntV cntO y_4.l ≤ 7340032 := by rw [cntO_dat]; exact hc_8
  have hn_10 : y_4.l.length ≤ 1000000000 := by have h_ := (hl_7).l0; simpa only [DX.dat, List.length_map] using h_
  refine jH rfl (jI [] Tryz.call22 rfl (Y_sFolded y_4 hzy_6 hl_7) rfl (fun w hw => hw.seeRows 0 rfl)) ?_
  rintro _ _ ⟨_, ⟨y_11, hy_12, rfl, rfl⟩, rfl⟩
  have hl_13 : y_11.dat.lim 1000000000 := by rw [hy_12]; exact folded_lim hzy_6 hl_7 (by decide)
  have hc_14 : cntV cntOd y_11.dat.slots ≤ 7340032 + 100000 := by rw [hy_12]; exact folded_cnt hc_8
  have hz_15 : cntV cntO y_11.l ≤ 7340032 + 100000 := by rw [cntO_dat]; exact hc_14
  have hn_16 : y_11.l.length ≤ 1000000000 := by have h_ := (hl_13).l0; simpa only [DX.dat, List.length_map] using h_
  refine jA (jD (v := .tuple #[.agg #[.slice y_11.a y_11.l.length y_11.c, str y_11.jt, iv y_11.js], .bool ((y_4.dat.folded).2)]) rfl) <| jA (je (v := .agg #[.slice y_11.a y_11.l.length y_11.c, str y_11.jt, iv y_11.js]) rfl rfl) <| jA (je (v := .bool ((y_4.dat.folded).2)) rfl rfl) ?_
  refine jH rfl (jo (z := .agg #[.slice none 0 0, str [], iv 0]) (cs := [.slice none 0 0, str [], iv 0]) ko rfl) ?_
  rintro _ _ ⟨b_17, rfl, rfl⟩
  refine jH rfl (ja 0 (vs := [.slice y_11.a y_11.l.length y_11.c, str y_11.jt, iv y_11.js]) (cs' := [.slice y_11.a y_11.l.length y_11.c, str y_11.jt, iv y_11.js]) rfl rfl rfl rfl kd rfl rfl (lb rfl) rfl) ?_
  rintro _ _ rfl
  refine jA (jG (v := .bool ((y_4.dat.folded).2)) rfl) <| jE <| jB <| jC <| jF <| jK (jO 3 (vs := [.slice d.a d.l.length d.c, str d.jt, iv d.js]) rfl rfl gE gF rfl rfl) ?_
  refine jH rfl (jI [] Tryz.call13 rfl (C_toDisk d hl) rfl (fun w hw => hw.seeOutAE hpre.1 nMA)) ?_
  rintro _ _ ⟨_, ⟨y_18, hy_19, rfl, rfl⟩, rfl⟩
  have hzy_20 : y_18.dat.okz := by rw [hy_19]; exact hz
  have hl_21 : y_18.dat.lim 1000000000 := by rw [hy_19]; exact hlB
  have hc_22 : cntV cntOd y_18.dat.slots ≤ 7340032 := by rw [hy_19]; exact hcB
  have hz_23 : cntV cntO y_18.l ≤ 7340032 := by rw [cntO_dat]; exact hc_22
  have hn_24 : y_18.l.length ≤ 1000000000 := by have h_ := (hl_21).l0; simpa only [DX.dat, List.length_map] using h_
  refine jH rfl (jo (z := .agg #[.slice none 0 0, str [], iv 0]) (cs := [.slice none 0 0, str [], iv 0]) ko rfl) ?_
  rintro _ _ ⟨b_25, rfl, rfl⟩
  refine jH rfl (ja 0 (vs := [.slice y_18.a y_18.l.length y_18.c, str y_18.jt, iv y_18.js]) (cs' := [.slice y_18.a y_18.l.length y_18.c, str y_18.jt, iv y_18.js]) rfl rfl rfl rfl kd rfl rfl (lb rfl) rfl) ?_
  rintro _ _ rfl
  refine jE <| jB <| jC <| jF <| jK (jO 0 (vs := [.slice y_18.a y_18.l.length y_18.c, str y_18.jt, iv y_18.js]) rfl rfl ke kd rfl rfl) ?_
  refine jH rfl (jI [] Tryz.call23 rfl (Y_iFolded y_18 hzy_20 hl_21) rfl (fun w hw => ⟨hw.seeRows 1 rfl, hw.hex hlow hpre.2⟩)) ?_
  rintro _ _ ⟨_, ⟨y_26, hy_27, rfl, rfl⟩, rfl⟩
  have hl_28 : y_26.dat.lim 1000000000 := by rw [hy_27]; exact folded_lim hzy_20 hl_21 (by decide)
  have hc_29 : cntV cntOd y_26.dat.slots ≤ 7340032 + 100000 := by rw [hy_27]; exact folded_cnt hc_22
  have hz_30 : cntV cntO y_26.l ≤ 7340032 + 100000 := by rw [cntO_dat]; exact hc_29
  have hn_31 : y_26.l.length ≤ 1000000000 := by have h_ := (hl_28).l0; simpa only [DX.dat, List.length_map] using h_
  refine jA (jD (v := .tuple #[.agg #[.slice y_26.a y_26.l.length y_26.c, str y_26.jt, iv y_26.js], .bool ((y_18.dat.folded).2)]) rfl) <| jA (je (v := .agg #[.slice y_26.a y_26.l.length y_26.c, str y_26.jt, iv y_26.js]) rfl rfl) <| jA (je (v := .bool ((y_18.dat.folded).2)) rfl rfl) ?_
  refine jH rfl (jo (z := .agg #[.slice none 0 0, str [], iv 0]) (cs := [.slice none 0 0, str [], iv 0]) ko rfl) ?_
  rintro _ _ ⟨b_32, rfl, rfl⟩
  refine jH rfl (ja 0 (vs := [.slice y_26.a y_26.l.length y_26.c, str y_26.jt, iv y_26.js]) (cs' := [.slice y_26.a y_26.l.length y_26.c, str y_26.jt, iv y_26.js]) rfl rfl rfl rfl kd rfl rfl (lb rfl) rfl) ?_
  rintro _ _ rfl
  refine jA (jG (v := .bool ((y_18.dat.folded).2)) rfl) <| jE <| jB <| jC <| jC <| jF <| jK (jO 0 (vs := [.slice y_26.a y_26.l.length y_26.c, str y_26.jt, iv y_26.js]) rfl rfl ke kd rfl rfl) <| jK (jO 4 (vs := [.slice y_11.a y_11.l.length y_11.c, str y_11.jt, iv y_11.js]) rfl rfl ke kd rfl rfl) ?_
  refine jH rfl (jI [] Tryz.call15 rfl (C_eqDisk y_26 y_11 hl_28) rfl (fun w hw => ⟨hw.seeRows 1 rfl, hw.seeRows 5 rfl⟩)) ?_
  rintro _ _ ⟨_, ⟨rfl, rfl⟩, rfl⟩
  refine jA (jp rfl) <| jA (jD (v := .bool (!(decide (y_26.dat = y_11.dat)))) rfl) ?_
  have h_33 : y_26.dat = y_11.dat := (by simp only [hy_5, hy_12, hy_19, hy_27])
  refine jM rfl rfl rfl (cB (cN (dT h_33))) (jP (jU (jD (v := .bool ((y_18.dat.folded).2)) rfl))) ?_
  rintro _ _ ⟨rfl, rfl⟩
  refine jM rfl rfl rfl (cB (cN (dT h_33))) (jP (jU (jD (v := .bool ((y_4.dat.folded).2)) rfl))) ?_
  rintro _ _ ⟨rfl, rfl⟩
  refine jM rfl rfl rfl (cB (cN (dT h_33))) (jP (jU (PO.neqB gJ rfl rfl))) ?_
  rintro _ _ ⟨rfl, rfl⟩
  refine jA (ji (v := .bool (!(decide (((y_18.dat.folded).2) = ((y_4.dat.folded).2))))) (cB (cN (dT h_33))) rfl) <| jE <| jB ?_
  have h_34 : ((y_18.dat.folded).2) = ((y_4.dat.folded).2) := (by simp only [hy_5, hy_12, hy_19, hy_27])
  refine jR (cB (cN (dT h_34))) <| jT <| jB <| jC <| jC <| kJ [bk b_32 31 [.slice y_26.a y_26.l.length y_26.c, str y_26.jt, iv y_26.js], Res.rows (rdsD y_26), bk b_25 31 [.slice y_18.a y_18.l.length y_18.c, str y_18.jt, iv y_18.js], Res.rows (rdsD y_18), bk b_17 31 [.slice y_11.a y_11.l.length y_11.c, str y_11.jt, iv y_11.js], Res.rows (rdsD y_11), Res.rows (rdsD y_4), bk b_1 26 [.slice d.a d.l.length d.c, str d.jt, iv d.js]] 1000 mixed (by simp) <| jw 0 rfl (jO 2 (vs := [.slice y_18.a y_18.l.length y_18.c, str y_18.jt, iv y_18.js]) rfl rfl ke kd rfl rfl) <| jw 1 rfl (jO 7 (vs := [.slice d.a d.l.length d.c, str d.jt, iv d.js]) rfl rfl gE gF rfl rfl) <| jj (i := 2) ?_
  refine jz rfl rfl (jI [] Tryz.call13 rfl (C_toDisk d hl) rfl (fun w hw => hw.seeOutAE hpre.1 nMA)) ?_
  rintro _ _ ⟨_, ⟨y_42, hy_43, rfl, rfl⟩, rfl⟩
  have hzy_44 : y_42.dat.okz := by rw [hy_43]; exact hz
  have hl_45 : y_42.dat.lim 1000000000 := by rw [hy_43]; exact hlB
  have hc_46 : cntV cntOd y_42.dat.slots ≤ 7340032 := by rw [hy_43]; exact hcB
  have hz_47 : cntV cntO y_42.l ≤ 7340032 := by rw [cntO_dat]; exact hc_46
  have hn_48 : y_42.l.length ≤ 1000000000 := by have h_ := (hl_45).l0; simpa only [DX.dat, List.length_map] using h_
  refine ⟨by simp, ?_⟩
  refine jj (i := 3) ?_
  refine jz rfl rfl (jI [] Tryz.call15 rfl (C_eqDisk y_18 y_42 hl_21) rfl (fun w hw => ⟨hw.seeRows 4 rfl, hw.seeRows 0 rfl⟩)) ?_
  rintro _ _ ⟨_, ⟨rfl, rfl⟩, rfl⟩
  refine ⟨by simp, ?_⟩
  refine jL 4 rfl (jp rfl) <| kI (by kernel_rfl) <| jB ?_
  have h_49 : y_18.dat = y_42.dat := (by simp only [hy_5, hy_12, hy_19, hy_27, hy_43])
  refine jR (cB (cN (dT h_49))) <| jT <| jB <| jC <| jF <| jA (jG (v := iv 1) rfl) <| jE <| jB <| jC <| jF ?_
  refine jK (jO 3 (vs := [.slice y_18.a y_18.l.length y_18.c, str y_18.jt, iv y_18.js]) rfl rfl ke kd rfl rfl) <| jA (jD (v := iv 1) rfl) ?_
  refine jH rfl (jI [4] Tryz.call16 rfl (C_markDisk y_18 1 (by omega) (by omega) (by omega)) rfl (fun _ _ => trivial)) ?_
  rintro _ _ ⟨_, ⟨rfl, rfl⟩, rfl⟩
  refine jA (jG (v := iv ((1 + cntV cntO y_18.l : Nat) : Int)) rfl) <| jE <| jB <| jC <| jC <| jF <| jA (jD (v := iv ((1 + cntV cntO y_18.l : Nat) : Int)) rfl) <| jA (jl rfl rfl) <| jA (jD (v := .bool (decide (((1 + cntV cntO y_18.l : Nat) : Int) < 0))) rfl) ?_
  have h_50 : ¬ (((1 + cntV cntO y_18.l : Nat) : Int) < 0) := (by omega)
  refine jM rfl rfl rfl (cB (dF h_50)) (jP (jO 2 (vs := [.slice y_26.a y_26.l.length y_26.c, str y_26.jt, iv y_26.js]) rfl rfl ke kd rfl rfl)) ?_
  rintro _ _ ⟨rfl, rfl⟩
  refine jM rfl rfl rfl (cB (dF h_50)) (jP (jO 5 (vs := [.slice y_11.a y_11.l.length y_11.c, str y_11.jt, iv y_11.js]) rfl rfl ke kd rfl rfl)) ?_
  rintro _ _ ⟨rfl, rfl⟩
  refine jM rfl rfl rfl (cB (dF h_50)) (jI [] Tryz.call15 rfl (C_eqDisk y_26 y_11 hl_28) rfl (fun w hw => ⟨hw.seeRows 3 rfl, hw.seeRows 6 rfl⟩)) ?_
  rintro _ _ ⟨_, ⟨rfl, rfl⟩, rfl⟩
  refine jM rfl rfl rfl (cB (dF h_50)) (jP (jU (jp rfl))) ?_
  rintro _ _ ⟨rfl, rfl⟩
  refine jA (ji (v := .bool (!(decide (y_26.dat = y_11.dat)))) (cB (dF h_50)) rfl) <| jA (jD (v := .bool (!(decide (y_26.dat = y_11.dat)))) rfl) <| jM rfl rfl rfl (cB (cN (dT h_33))) (jP (jU (jD (v := .bool ((y_18.dat.folded).2)) rfl))) ?_
  rintro _ _ ⟨rfl, rfl⟩
  refine jM rfl rfl rfl (cB (cN (dT h_33))) (jP (jU (jD (v := .bool ((y_4.dat.folded).2)) rfl))) ?_
  rintro _ _ ⟨rfl, rfl⟩
  refine jM rfl rfl rfl (cB (cN (dT h_33))) (jP (jU (PO.neqB gJ rfl rfl))) ?_
  rintro _ _ ⟨rfl, rfl⟩
  refine jA (ji (v := .bool (!(decide (((y_18.dat.folded).2) = ((y_4.dat.folded).2))))) (cB (cN (dT h_33))) rfl) <| jE <| jB <| jR (cB (cN (dT h_34))) <| jT <| jB <| jC <| jF <| jA (jG (v := iv 1) rfl) <| jE ?_
  refine jB <| jC <| jF <| jK (jO 2 (vs := [.slice y_26.a y_26.l.length y_26.c, str y_26.jt, iv y_26.js]) rfl rfl ke kd rfl rfl) <| jA (jD (v := iv 1) rfl) ?_
  refine jH rfl (jI [3] Tryz.call16 rfl (C_markDisk y_26 1 (by omega) (by omega) (by omega)) rfl (fun _ _ => trivial)) ?_
  rintro _ _ ⟨_, ⟨rfl, rfl⟩, rfl⟩
  refine jA (jG (v := iv ((1 + cntV cntO y_26.l : Nat) : Int)) rfl) <| jE <| jB <| jC <| jF <| jA (jG (v := iv 1) rfl) <| jE <| jB <| jC <| jF ?_
  refine jK (jO 3 (vs := [.slice y_26.a y_26.l.length y_26.c, str y_26.jt, iv y_26.js]) rfl rfl ke kd rfl rfl) <| jA (jD (v := iv 1) rfl) ?_
  refine jH rfl (jI [] Tryz.call17 rfl (C_heldDisk y_26 1 (by omega) (by omega) (by omega)) rfl (fun w hw => hw.seeRows 0 rfl)) ?_
  rintro _ _ ⟨_, ⟨rfl, rfl⟩, rfl⟩
  refine jA (jG (v := iv ((1 + cntV cntO y_26.l : Nat) : Int)) rfl) <| jE <| jB <| jC <| jC <| jF <| jA (jD (v := iv ((1 + cntV cntO y_26.l : Nat) : Int)) rfl) <| jA (jl rfl rfl) <| jE <| jB ?_
  have h_51 : ¬ (((1 + cntV cntO y_26.l : Nat) : Int) < 0) := (by omega)
  refine jR (cB (dF h_51)) <| jT <| jB <| jC <| jC <| jF <| jA (jD (v := iv ((1 + cntV cntO y_26.l : Nat) : Int)) rfl) <| jA (jD (v := iv ((1 + cntV cntO y_26.l : Nat) : Int)) rfl) <| jA (kS rfl rfl) <| jE ?_
  refine jB <| jR (cB (cN (dT rfl))) <| jT <| jB <| jC <| jF <| jK (jO 8 (vs := [.slice d.a d.l.length d.c, str d.jt, iv d.js]) rfl rfl gE gF rfl rfl) ?_
  refine jH rfl (jI [] Tryz.call13 rfl (C_toDisk d hl) rfl (fun w hw => hw.seeOutAE hpre.1 nMA)) ?_
  rintro _ _ ⟨_, ⟨y_52, hy_53, rfl, rfl⟩, rfl⟩
  have hzy_54 : y_52.dat.okz := by rw [hy_53]; exact hz
  have hl_55 : y_52.dat.lim 1000000000 := by rw [hy_53]; exact hlB
  have hc_56 : cntV cntOd y_52.dat.slots ≤ 7340032 := by rw [hy_53]; exact hcB
  have hz_57 : cntV cntO y_52.l ≤ 7340032 := by rw [cntO_dat]; exact hc_56
  have hn_58 : y_52.l.length ≤ 1000000000 := by have h_ := (hl_55).l0; simpa only [DX.dat, List.length_map] using h_
  refine jH rfl (jI [] Tryz.call23 rfl (Y_iFolded y_52 hzy_54 hl_55) rfl (fun w hw => ⟨hw.seeRows 0 rfl, hw.hex hlow hpre.2⟩)) ?_
  rintro _ _ ⟨_, ⟨y_59, hy_60, rfl, rfl⟩, rfl⟩
  have hl_61 : y_59.dat.lim 1000000000 := by rw [hy_60]; exact folded_lim hzy_54 hl_55 (by decide)
  have hc_62 : cntV cntOd y_59.dat.slots ≤ 7340032 + 100000 := by rw [hy_60]; exact folded_cnt hc_56
  have hz_63 : cntV cntO y_59.l ≤ 7340032 + 100000 := by rw [cntO_dat]; exact hc_62
  have hn_64 : y_59.l.length ≤ 1000000000 := by have h_ := (hl_61).l0; simpa only [DX.dat, List.length_map] using h_
  refine jA (jD (v := .tuple #[.agg #[.slice y_59.a y_59.l.length y_59.c, str y_59.jt, iv y_59.js], .bool ((y_52.dat.folded).2)]) rfl) <| jA (je (v := .agg #[.slice y_59.a y_59.l.length y_59.c, str y_59.jt, iv y_59.js]) rfl rfl) <| jA (je (v := .bool ((y_52.dat.folded).2)) rfl rfl) ?_
  refine jH rfl (jo (z := .agg #[.slice none 0 0, str [], iv 0]) (cs := [.slice none 0 0, str [], iv 0]) ko rfl) ?_
  rintro _ _ ⟨b_65, rfl, rfl⟩
  refine jH rfl (ja 0 (vs := [.slice y_59.a y_59.l.length y_59.c, str y_59.jt, iv y_59.js]) (cs' := [.slice y_59.a y_59.l.length y_59.c, str y_59.jt, iv y_59.js]) rfl rfl rfl rfl kd rfl rfl (lb rfl) rfl) ?_
  rintro _ _ rfl
  refine jA (jG (v := .bool ((y_52.dat.folded).2)) rfl) <| jE <| jB <| jC <| jC <| jF <| jK (jO 0 (vs := [.slice y_59.a y_59.l.length y_59.c, str y_59.jt, iv y_59.js]) rfl rfl ke kd rfl rfl) <| jK (jO 8 (vs := [.slice y_11.a y_11.l.length y_11.c, str y_11.jt, iv y_11.js]) rfl rfl ke kd rfl rfl) ?_
  refine jH rfl (jI [] Tryz.call15 rfl (C_eqDisk y_59 y_11 hl_61) rfl (fun w hw => ⟨hw.seeRows 1 rfl, hw.seeRows 9 rfl⟩)) ?_
  rintro _ _ ⟨_, ⟨rfl, rfl⟩, rfl⟩
  refine jA (jp rfl) <| jA (jD (v := .bool (!(decide (y_59.dat = y_11.dat)))) rfl) ?_
  have h_66 : y_59.dat = y_11.dat := (by simp only [hy_5, hy_12, hy_19, hy_27, hy_43, hy_53, hy_60])
  refine jM rfl rfl rfl (cB (cN (dT h_66))) (jP (jU (jD (v := .bool ((y_52.dat.folded).2)) rfl))) ?_
  rintro _ _ ⟨rfl, rfl⟩
  refine jM rfl rfl rfl (cB (cN (dT h_66))) (jP (jU (jD (v := .bool ((y_4.dat.folded).2)) rfl))) ?_
  rintro _ _ ⟨rfl, rfl⟩
  refine jM rfl rfl rfl (cB (cN (dT h_66))) (jP (jU (PO.neqB gJ rfl rfl))) ?_
  rintro _ _ ⟨rfl, rfl⟩
  refine jA (ji (v := .bool (!(decide (((y_52.dat.folded).2) = ((y_4.dat.folded).2))))) (cB (cN (dT h_66))) rfl) <| jE <| jB ?_
  have h_67 : ((y_52.dat.folded).2) = ((y_4.dat.folded).2) := (by simp only [hy_5, hy_12, hy_19, hy_27, hy_43, hy_53, hy_60])
  refine jR (cB (cN (dT h_67))) <| jT <| jB <| jC <| jF <| jA (jG (v := iv 1) rfl) <| jE <| jB <| jC <| jF ?_
  refine jK (jO 6 (vs := [.slice y_26.a y_26.l.length y_26.c, str y_26.jt, iv y_26.js]) rfl rfl ke kd rfl rfl) <| jA (jD (v := iv 1) rfl) ?_
  refine jH rfl (jI [] Tryz.call17 rfl (C_heldDisk y_26 1 (by omega) (by omega) (by omega)) rfl (fun w hw => hw.seeRows 3 rfl)) ?_
  rintro _ _ ⟨_, ⟨rfl, rfl⟩, rfl⟩
  refine jA (jG (v := iv ((1 + cntV cntO y_26.l : Nat) : Int)) rfl) <| jE <| jB <| jC <| jC <| jF <| jA (jD (v := iv ((1 + cntV cntO y_26.l : Nat) : Int)) rfl) <| jA (jl rfl rfl) <| jE <| jB ?_
  refine jR (cB (dF h_51)) <| jT <| jB <| jC <| jC <| jF <| jA (jD (v := iv ((1 + cntV cntO y_26.l : Nat) : Int)) rfl) <| jA (jD (v := iv ((1 + cntV cntO y_26.l : Nat) : Int)) rfl) <| jA (kS rfl rfl) <| jE ?_
  refine jB <| jR (cB (cN (dT rfl))) <| jT <| jB <| jC <| jF <| jA (jG (v := .bool true) rfl) <| jE <| jB <| jN ?_
  refine jV (.inl rfl) rfl (jJ (v := .bool true) rfl) (List.nil_sublist _) ?_
  exact ⟨rfl, rfl⟩

end Go.Proofs.YtjncpgcccgdeiaaGreatDoor
