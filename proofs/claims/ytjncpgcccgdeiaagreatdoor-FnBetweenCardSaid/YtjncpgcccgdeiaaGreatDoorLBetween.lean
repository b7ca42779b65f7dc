/-
  laws.FnBetween walked: it returns true.
-/
import Derived.Test.YtjncpgcccgdeiaaGreatDoorS26DRAWN
set_option linter.unusedSimpArgs false
set_option linter.unusedVariables false
set_option linter.unnecessarySimpa false
namespace Go.Proofs.YtjncpgcccgdeiaaGreatDoor
open Go Go.RowKit
attribute [local irreducible] JL JC JQ JO LO PO JA JX Ct

set_option maxRecDepth 8000 in
set_option maxHeartbeats 4000000 in
theorem L_Between (pa : Option Addr) (pc : Nat) (p : Str) :
    Ct Tryz.prog 7 [.slice pa p.length pc] [] (fun w => Sees w (.slice pa p.length pc) 1 p.length (p.map encB) ∧ HexOk w) (fun v A' => v = .bool true ∧ A' = []) := by
  refine Ct.introL Tryz.func7 rfl Tryz.ntmps7 (lb rfl) fun w0 hpre hlow => ?_
  have hs_pa : Sees w0 _ _ _ _ := hpre.1
  refine jC <| jF <| jA (jG (v := .bool false) rfl) <| jE <| jB <| jC <| jC <| jF <| jA (jD (v := .slice pa p.length pc) rfl) ?_
  refine jH rfl (jI [] Tryz.call24 rfl (N_big pa pc p) rfl (fun _ _ => trivial)) ?_
  rintro _ _ ⟨_, ⟨rfl, rfl⟩, rfl⟩
  refine jE <| jB ?_
  by_cases h_1 : 1048576 < ((p.length : Nat) : Int)
  · refine jW (cB (dT h_1)) <| jC <| jF <| jA (jG (v := .bool true) rfl) <| jE <| jB <| jN <| jX <| jV (.inl rfl) rfl (jJ (v := .bool true) rfl) (List.nil_sublist _) ?_
    exact ⟨rfl, rfl⟩
  refine jR (cB (dF h_1)) <| jT <| jB <| jC <| jF <| jA (jD (v := .slice pa p.length pc) rfl) ?_
  refine jH rfl (jI [] Tryz.call25 rfl (D_dPlaces pa pc p (by omega)) rfl (fun w hw => hw.seeOut_ hs_pa nM)) ?_
  rintro _ _ ⟨_, ⟨l_2a, l_2c, l_2, f_3, rfl, rfl⟩, rfl⟩
  refine jA (jG (v := .slice l_2a l_2.length l_2c) rfl) <| jE <| jB <| jC <| jF ?_
  refine jH rfl (jI [] Tryz.call26 rfl (Y_implDiskNew none 0 [] (by first | omega | simp)) rfl (fun w hw => sees_nil _)) ?_
  rintro _ _ ⟨_, ⟨d_5, hd_6, rfl, rfl⟩, rfl⟩
  have hd_7 : Drawn2 d_5 := drawn_new hd_6 ⟨by simp, fun c hc => by cases hc⟩
  have hj_8 := hd_7.j
  refine jH rfl (jo (z := .agg #[.slice none 0 0, str [], iv 0]) (cs := [.slice none 0 0, str [], iv 0]) ko rfl) ?_
  rintro _ _ ⟨b_9, rfl, rfl⟩
  refine jH rfl (ja 0 (vs := [.slice d_5.a d_5.l.length d_5.c, str d_5.jt, iv d_5.js]) (cs' := [.slice d_5.a d_5.l.length d_5.c, str d_5.jt, iv d_5.js]) rfl rfl rfl rfl kd rfl rfl (lb rfl) rfl) ?_
  rintro _ _ rfl
  refine jE <| jB <| jC <| kJ [bk b_9 31 [.slice d_5.a d_5.l.length d_5.c, str d_5.jt, iv d_5.js]] 9 mixed (by simp) <| jL 0 rfl (jQ fo31_1 rfl) <| jw 1 rfl (jO 0 (vs := [str d_5.jt, iv d_5.js]) rfl rfl kp kl rfl rfl) <| jL 2 rfl (kW (ps := [(0, str [97]), (1, str [49])]) (cs := [str [97], str [49]]) rfl (by kernel_rfl)) <| jj (i := 3) ?_
  refine jz rfl rfl (kH (ps := [(0, .agg #[str [97], str [49]])]) (cur := #[str [97], str [49]]) kf kh kw rfl (by kernel_rfl) (by decide) (by decide)) ?_
  rintro _ _ ⟨a_11, rfl, rfl⟩
  refine ⟨(by simp), ?_⟩
  refine jj (i := 4) ?_
  refine jz rfl rfl (jI [] Tryz.call28 rfl (Y_iRec 1 a_11 1 ([([97], [49])] : List Cell) (short_okC (fun c hc => by simp only [List.mem_cons, List.not_mem_nil, or_false] at hc; subst hc; exact ⟨by dsimp only; first | decide | omega, by dsimp only; first | decide | omega⟩) (by simp))) rfl (fun w hw => hw.see (i := 0) rfl)) ?_
  rintro _ _ ⟨_, ⟨rfl, rfl⟩, rfl⟩
  have hrl_13 := recTextL 1 ([([97], [49])] : List Cell)
  refine ⟨(by simp), ?_⟩
  refine jj (i := 5) ?_
  refine jz rfl rfl (jI [] Tryz.call27 rfl (Y_iAdd d_5.jt d_5.js (recText 1 ([([97], [49])] : List Cell)) (by omega) (by omega)) rfl (fun _ _ => trivial)) ?_
  rintro _ _ ⟨_, ⟨u_18, b_19, e_20, rfl, rfl⟩, rfl⟩
  have hl_21 : u_18.length ≤ 100000 := addT_len e_20 (by omega) (by omega)
  refine ⟨(by simp), ?_⟩
  refine jL 6 rfl (jD (v := .tuple #[.agg #[str u_18, iv d_5.js], .bool b_19]) rfl) <| jL 7 rfl (je (v := .agg #[str u_18, iv d_5.js]) rfl rfl) <| jL 8 rfl (je (v := .bool b_19) rfl rfl) <| jL 9 rfl (jQ fo31_1 rfl) <| jj (i := 10) ?_
  refine JX.ls rfl (ja 1 (vs := [str u_18, iv d_5.js]) (cs' := [.slice d_5.a d_5.l.length d_5.c, str u_18, iv d_5.js]) rfl rfl rfl rfl kl rfl rfl (lb rfl) rfl) ?_
  rintro _ _ rfl
  refine jB <| jC ?_
  have hj1 : d_5.jt = [] := congrArg DD.jt hd_6
  have hs1 : d_5.js = 0 := congrArg DD.js hd_6
  have hr1 := recTextL 1 [([97], [49])]
  have hq1 : u_18 = recText 1 [([97], [49])] := by have h_ := e_20; rw [hj1, hs1, addT_yes (by decide) (by simp only [List.length_nil]; omega)] at h_; exact (congrArg Prod.fst h_).symm
  have hN1 : Drawn2 (⟨d_5.a, d_5.c, d_5.l, u_18, d_5.js⟩ : DX) := hd_7.of rfl (by show u_18.length ≤ _; omega)
  have hN1E : (⟨d_5.a, d_5.c, d_5.l, u_18, d_5.js⟩ : DX).dat = ⟨[⟨0, [], true⟩, ⟨0, [], false⟩], u_18, 0⟩ := by show (⟨d_5.l.map OX.t, _, d_5.js⟩ : DD) = _; rw [show d_5.l.map OX.t = _ from congrArg DD.slots hd_6, hs1]; rfl
  obtain ⟨hob1, hob2, hob3, hob4, hob5, hob6⟩ := one_begun (k := [97]) (v := [49]) (j := 0) (by decide) (by decide) (by decide) hq1 (by decide) (by omega)
  rw [← hN1E] at hob1
  have hob7 : ((⟨d_5.a, d_5.c, d_5.l, u_18, d_5.js⟩ : DX).dat.foldB).2 = true := by rw [hob1]
  refine jF <| jK (jO 1 (vs := [.slice d_5.a d_5.l.length d_5.c, str u_18, iv d_5.js]) rfl rfl ke kd rfl rfl) ?_
  refine jH rfl (jI [] Tryz.call21 rfl (Y_iFoldB (⟨d_5.a, d_5.c, d_5.l, u_18, d_5.js⟩ : DX) hN1.z hN1.l) rfl (fun w hw => ⟨hw.seeRows 2 rfl, hw.hex hlow hpre.2⟩)) ?_
  rintro _ _ ⟨_, ⟨y_22, hy_23, rfl, rfl⟩, rfl⟩
  have hz_24 : y_22.dat.okz := by rw [hy_23]; exact foldB_okz hN1.z
  have hl_25 : y_22.dat.lim 1000000000 := by rw [hy_23]; exact foldB_lim hN1.z hN1.l (by decide)
  refine jA (jD (v := .tuple #[.agg #[.slice y_22.a y_22.l.length y_22.c, str y_22.jt, iv y_22.js], .bool (((⟨d_5.a, d_5.c, d_5.l, u_18, d_5.js⟩ : DX).dat.foldB).2)]) rfl) <| jA (je (v := .agg #[.slice y_22.a y_22.l.length y_22.c, str y_22.jt, iv y_22.js]) rfl rfl) <| jA (je (v := .bool (((⟨d_5.a, d_5.c, d_5.l, u_18, d_5.js⟩ : DX).dat.foldB).2)) rfl rfl) ?_
  refine jH rfl (ja 2 (vs := [.slice y_22.a y_22.l.length y_22.c, str y_22.jt, iv y_22.js]) (cs' := [.slice y_22.a y_22.l.length y_22.c, str y_22.jt, iv y_22.js]) rfl rfl rfl rfl kd rfl rfl (lb rfl) rfl) ?_
  rintro _ _ rfl
  refine jA (jG (v := .bool (((⟨d_5.a, d_5.c, d_5.l, u_18, d_5.js⟩ : DX).dat.foldB).2)) rfl) <| jE <| jB <| jC ?_
  have hxd : y_22.dat = ⟨[⟨0, [], true⟩, ⟨1, [([97], [49])], false⟩], u_18, ((u_18.length : Nat) : Int)⟩ := by rw [hy_23, hob1]
  have hjx : y_22.jt = u_18 := congrArg DD.jt hxd
  have hsx : y_22.js = ((u_18.length : Nat) : Int) := congrArg DD.js hxd
  have hjxl : y_22.jt.length = u_18.length := by rw [hjx]
  have hpl := f_3.2 _ (getD_mem (d := 0) (show 0 < l_2.length by omega))
  have hul := dec_len (n := l_2.getD 0 0) (by omega) (by omega)
  refine kJ [bk b_9 31 [.slice y_22.a y_22.l.length y_22.c, str y_22.jt, iv y_22.js]] 13 mixed (by simp) <| jL 0 rfl (jQ fo31_1 rfl) <| jw 1 rfl (jO 0 (vs := [str y_22.jt, iv y_22.js]) rfl rfl kp kl rfl rfl) <| jL 2 rfl (jD (v := .slice l_2a l_2.length l_2c) rfl) ?_
  refine JA.facts fun hst => ?_
  obtain ⟨hr_26, hr_26b, -⟩ := row_some 4 rfl (by omega) hst
  refine jL 3 rfl (jk (i := 0) Tryz.underlying41 gA hr_26 hr_26b rfl rfl (by omega)) <| jj (i := 4) ?_
  refine jz rfl rfl (jP (ka 4 (v := iv (l_2.getD 0 0)) rfl rfl kq (atI (by omega)))) ?_
  rintro _ _ ⟨rfl, rfl⟩
  refine ⟨(by simp), ?_⟩
  refine jj (i := 5) ?_
  refine jz rfl rfl (jI [] Tryz.call29 rfl (C_decimal (l_2.getD 0 0) (by omega) (by omega)) rfl (fun _ _ => trivial)) ?_
  rintro _ _ ⟨_, ⟨rfl, rfl⟩, rfl⟩
  have hdl_28 := dec_len (n := l_2.getD 0 0) (by omega) (by omega)
  refine ⟨(by simp), ?_⟩
  refine jL 6 rfl (kW (ps := [(0, str [98]), (1, str (dec (l_2.getD 0 0)))]) (cs := [str [98], str (dec (l_2.getD 0 0))]) rfl (by kernel_rfl)) <| jj (i := 7) ?_
  refine jz rfl rfl (kH (ps := [(0, .agg #[str [98], str (dec (l_2.getD 0 0))])]) (cur := #[str [98], str (dec (l_2.getD 0 0))]) kf kh kw rfl (by kernel_rfl) (by decide) (by decide)) ?_
  rintro _ _ ⟨a_30, rfl, rfl⟩
  refine ⟨(by simp), ?_⟩
  refine jj (i := 8) ?_
  refine jz rfl rfl (jI [] Tryz.call28 rfl (Y_iRec 2 a_30 1 ([([98], dec (l_2.getD 0 0))] : List Cell) (short_okC (fun c hc => by simp only [List.mem_cons, List.not_mem_nil, or_false] at hc; subst hc; exact ⟨by dsimp only; first | decide | omega, by dsimp only; first | decide | omega⟩) (by simp))) rfl (fun w hw => hw.see (i := 0) rfl)) ?_
  rintro _ _ ⟨_, ⟨rfl, rfl⟩, rfl⟩
  have hrl_32 := recTextL 2 ([([98], dec (l_2.getD 0 0))] : List Cell)
  refine ⟨(by simp), ?_⟩
  refine jj (i := 9) ?_
  refine jz rfl rfl (jI [] Tryz.call27 rfl (Y_iAdd y_22.jt y_22.js (recText 2 ([([98], dec (l_2.getD 0 0))] : List Cell)) (by omega) (by omega)) rfl (fun _ _ => trivial)) ?_
  rintro _ _ ⟨_, ⟨u_37, b_38, e_39, rfl, rfl⟩, rfl⟩
  have hl_40 : u_37.length ≤ 100000 := addT_len e_39 (by omega) (by omega)
  refine ⟨(by simp), ?_⟩
  refine jL 10 rfl (jD (v := .tuple #[.agg #[str u_37, iv y_22.js], .bool b_38]) rfl) <| jL 11 rfl (je (v := .agg #[str u_37, iv y_22.js]) rfl rfl) <| jL 12 rfl (je (v := .bool b_38) rfl rfl) <| jL 13 rfl (jQ fo31_1 rfl) <| jj (i := 14) ?_
  refine JX.ls rfl (ja 3 (vs := [str u_37, iv y_22.js]) (cs' := [.slice y_22.a y_22.l.length y_22.c, str u_37, iv y_22.js]) rfl rfl rfl rfl kl rfl rfl (lb rfl) rfl) ?_
  rintro _ _ rfl
  refine jB <| jC ?_
  have hr2 := recTextL 2 [([98], (dec (l_2.getD 0 0)))]
  have hq2 : u_37 = u_18 ++ recText 2 [([98], (dec (l_2.getD 0 0)))] := by have h_ := e_39; rw [hjx, hsx, addT_yes (jour_mk (by omega) (by omega) (Int.le_refl _)) (by omega)] at h_; exact (congrArg Prod.fst h_).symm
  have hq2l : u_37.length = u_18.length + (recText 2 [([98], (dec (l_2.getD 0 0)))]).length := by rw [hq2, List.length_append]
  refine jF <| jA (jQ fo31_1 rfl) <| jK (jO 3 (vs := [str u_37, iv y_22.js]) rfl rfl kp kl rfl rfl) ?_
  refine jH rfl (jI [] Tryz.call30 rfl (Y_iFlush u_37 y_22.js (by omega)) rfl (fun _ _ => trivial)) ?_
  rintro _ _ ⟨_, ⟨n_41, e_42, rfl, rfl⟩, rfl⟩
  refine jA (jQ fo31_1 rfl) ?_
  refine jH rfl (ja 3 (vs := [str u_37, iv n_41]) (cs' := [.slice y_22.a y_22.l.length y_22.c, str u_37, iv n_41]) rfl rfl rfl rfl kl rfl rfl (lb rfl) rfl) ?_
  rintro _ _ rfl
  refine jE <| jB <| jC ?_
  have hk2 : n_41 = ((u_37.length : Nat) : Int) := by have h_ := e_42; rw [flushT_yes (jour_mk (by omega) (by omega) (by omega))] at h_; exact h_.symm
  have hN2E : (⟨y_22.a, y_22.c, y_22.l, u_37, n_41⟩ : DX).dat = ⟨[⟨0, [], true⟩, ⟨1, [([97], [49])], false⟩], u_18 ++ recText 2 [([98], (dec (l_2.getD 0 0)))], (((u_18 ++ recText 2 [([98], (dec (l_2.getD 0 0)))]).length : Nat) : Int)⟩ := by show (⟨y_22.l.map OX.t, u_37, n_41⟩ : DD) = _; rw [show y_22.l.map OX.t = _ from congrArg DD.slots hxd, hk2, hq2]
  have hN2z : (⟨y_22.a, y_22.c, y_22.l, u_37, n_41⟩ : DX).dat.okz := ⟨hz_24.k0, hz_24.k1, by show u_37.length ≤ _; omega⟩
  have hN2l : (⟨y_22.a, y_22.c, y_22.l, u_37, n_41⟩ : DX).dat.lim 1000000000 := ⟨hl_25.l0, hl_25.l1⟩
  have hune : (dec (l_2.getD 0 0)) ≠ [] := List.length_pos_iff.1 (dec_pos _)
  obtain ⟨hbt1, hbt2, hbt3, hbt4⟩ := (between (k := [97]) (v := [49]) (k2 := [98]) (v2 := (dec (l_2.getD 0 0))) (by decide) (by decide) (by decide) hq1 (by decide) hune (by omega) rfl).2.2.2 _ hN2E
  refine jF <| jK (jO 3 (vs := [.slice y_22.a y_22.l.length y_22.c, str u_37, iv n_41]) rfl rfl ke kd rfl rfl) ?_
  refine jH rfl (jI [] Tryz.call31 rfl (Y_iFallD (⟨y_22.a, y_22.c, y_22.l, u_37, n_41⟩ : DX) hN2z hN2l 0) rfl (fun w hw => hw.seeRows 1 rfl)) ?_
  rintro _ _ ⟨_, ⟨y_43, hy_44, rfl, rfl⟩, rfl⟩
  have hz_45 : y_43.dat.okz := by rw [hy_44]; exact fall_okz hN2z 0
  have hl_46 : y_43.dat.lim 1000000000 := by rw [hy_44]; exact fall_lim hN2l 0
  refine jH rfl (jo (z := .agg #[.slice none 0 0, str [], iv 0]) (cs := [.slice none 0 0, str [], iv 0]) ko rfl) ?_
  rintro _ _ ⟨b_47, rfl, rfl⟩
  refine jH rfl (ja 0 (vs := [.slice y_43.a y_43.l.length y_43.c, str y_43.jt, iv y_43.js]) (cs' := [.slice y_43.a y_43.l.length y_43.c, str y_43.jt, iv y_43.js]) rfl rfl rfl rfl kd rfl rfl (lb rfl) rfl) ?_
  rintro _ _ rfl
  refine jE <| jB <| jC <| jF <| jK (jO 5 (vs := [.slice y_22.a y_22.l.length y_22.c, str u_37, iv n_41]) rfl rfl ke kd rfl rfl) ?_
  refine jH rfl (jI [] Tryz.call32 rfl (Y_iFoldE (⟨y_22.a, y_22.c, y_22.l, u_37, n_41⟩ : DX) hN2z hN2l) rfl (fun w hw => hw.seeRows 3 rfl)) ?_
  rintro _ _ ⟨_, ⟨y_48, hy_49, rfl, rfl⟩, rfl⟩
  have hz_50 : y_48.dat.okz := by rw [hy_49]; exact foldE_okz hN2z
  have hl_51 : y_48.dat.lim 1000000000 := by rw [hy_49]; exact foldE_lim hN2l
  refine jA (jD (v := .tuple #[.agg #[.slice y_48.a y_48.l.length y_48.c, str y_48.jt, iv y_48.js], .bool (((⟨y_22.a, y_22.c, y_22.l, u_37, n_41⟩ : DX).dat.foldE).2)]) rfl) <| jA (je (v := .agg #[.slice y_48.a y_48.l.length y_48.c, str y_48.jt, iv y_48.js]) rfl rfl) <| jA (je (v := .bool (((⟨y_22.a, y_22.c, y_22.l, u_37, n_41⟩ : DX).dat.foldE).2)) rfl rfl) ?_
  refine jH rfl (jo (z := .agg #[.slice none 0 0, str [], iv 0]) (cs := [.slice none 0 0, str [], iv 0]) ko rfl) ?_
  rintro _ _ ⟨b_52, rfl, rfl⟩
  refine jH rfl (ja 0 (vs := [.slice y_48.a y_48.l.length y_48.c, str y_48.jt, iv y_48.js]) (cs' := [.slice y_48.a y_48.l.length y_48.c, str y_48.jt, iv y_48.js]) rfl rfl rfl rfl kd rfl rfl (lb rfl) rfl) ?_
  rintro _ _ rfl
  refine jA (jG (v := .bool (((⟨y_22.a, y_22.c, y_22.l, u_37, n_41⟩ : DX).dat.foldE).2)) rfl) <| jE <| jB <| jC <| jF <| jK (jO 0 (vs := [.slice y_48.a y_48.l.length y_48.c, str y_48.jt, iv y_48.js]) rfl rfl ke kd rfl rfl) ?_
  refine jH rfl (jI [] Tryz.call14 rfl (Y_iTrim y_48 hz_50 hl_51) rfl (fun w hw => ⟨hw.seeRows 1 rfl, hw.hex hlow hpre.2⟩)) ?_
  rintro _ _ ⟨_, ⟨y_53, hy_54, rfl, rfl⟩, rfl⟩
  have hz_55 : y_53.dat.okz := by rw [hy_54]; exact trim_okz hz_50
  have hl_56 : y_53.dat.lim 1000000000 := by rw [hy_54]; exact trim_lim hl_51
  refine jH rfl (jo (z := .agg #[.slice none 0 0, str [], iv 0]) (cs := [.slice none 0 0, str [], iv 0]) ko rfl) ?_
  rintro _ _ ⟨b_57, rfl, rfl⟩
  refine jH rfl (ja 0 (vs := [.slice y_53.a y_53.l.length y_53.c, str y_53.jt, iv y_53.js]) (cs' := [.slice y_53.a y_53.l.length y_53.c, str y_53.jt, iv y_53.js]) rfl rfl rfl rfl kd rfl rfl (lb rfl) rfl) ?_
  rintro _ _ rfl
  refine jE <| jB <| jC <| jF <| jK (jO 4 (vs := [.slice y_43.a y_43.l.length y_43.c, str y_43.jt, iv y_43.js]) rfl rfl ke kd rfl rfl) ?_
  refine jH rfl (jI [] Tryz.call33 rfl (Y_iRecov y_43 hz_45 hl_46) rfl (fun w hw => ⟨hw.seeRows 5 rfl, hw.hex hlow hpre.2⟩)) ?_
  rintro _ _ ⟨_, ⟨a_58, c_59, rfl, rfl⟩, rfl⟩
  have hrn_60 := recov_len0 y_43.dat
  refine jA (jD (v := .tuple #[.slice a_58 y_43.dat.recov.1.length c_59, iv y_43.dat.recov.2]) rfl) <| jA (je (v := .slice a_58 y_43.dat.recov.1.length c_59) rfl rfl) <| jA (je (v := iv y_43.dat.recov.2) rfl rfl) <| jA (jG (v := .slice a_58 y_43.dat.recov.1.length c_59) rfl) <| jA (jG (v := iv y_43.dat.recov.2) rfl) <| jE <| jB <| jC <| jF <| jK (jO 1 (vs := [.slice y_53.a y_53.l.length y_53.c, str y_53.jt, iv y_53.js]) rfl rfl ke kd rfl rfl) ?_
  refine jH rfl (jI [] Tryz.call33 rfl (Y_iRecov y_53 hz_55 hl_56) rfl (fun w hw => ⟨hw.seeRows 2 rfl, hw.hex hlow hpre.2⟩)) ?_
  rintro _ _ ⟨_, ⟨a_61, c_62, rfl, rfl⟩, rfl⟩
  have hrn_63 := recov_len0 y_53.dat
  refine jA (jD (v := .tuple #[.slice a_61 y_53.dat.recov.1.length c_62, iv y_53.dat.recov.2]) rfl) <| jA (je (v := .slice a_61 y_53.dat.recov.1.length c_62) rfl rfl) <| jA (je (v := iv y_53.dat.recov.2) rfl rfl) <| jA (jG (v := .slice a_61 y_53.dat.recov.1.length c_62) rfl) <| jA (jG (v := iv y_53.dat.recov.2) rfl) <| jE <| jB <| jC ?_
  have hfr : y_43.dat.recov = (putKey [([97], [49])] [98] (dec (l_2.getD 0 0)), 2) := by rw [hy_44]; exact hbt2
  have hzr : y_53.dat.recov = (putKey [([97], [49])] [98] (dec (l_2.getD 0 0)), 2) := by rw [hy_54, hy_49]; exact hbt3
  have hzj : y_53.jt = recText 2 [([98], (dec (l_2.getD 0 0)))] := by have h_ := congrArg DD.jt hy_54; rw [hy_49] at h_; exact h_.trans hbt4
  refine kJ [bk b_57 31 [.slice y_53.a y_53.l.length y_53.c, str y_53.jt, iv y_53.js], bk b_9 31 [.slice y_22.a y_22.l.length y_22.c, str u_37, iv n_41]] 33 mixed (by simp) <| jL 0 rfl (jD (v := .bool (((⟨d_5.a, d_5.c, d_5.l, u_18, d_5.js⟩ : DX).dat.foldB).2)) rfl) <| jL 1 rfl (jD (v := .bool (((⟨d_5.a, d_5.c, d_5.l, u_18, d_5.js⟩ : DX).dat.foldB).2)) rfl) <| jg 2 rfl (by kernel_rfl) (NP.th NP.body) (by kernel_rfl) (by kernel_rfl) rfl rfl rfl (cB hob7) (jD (v := .bool (((⟨y_22.a, y_22.c, y_22.l, u_37, n_41⟩ : DX).dat.foldE).2)) rfl) <| jL 3 rfl (jh (v := .bool (((⟨y_22.a, y_22.c, y_22.l, u_37, n_41⟩ : DX).dat.foldE).2)) (cB hob7) rfl) <| jL 4 rfl (jD (v := .bool (((⟨y_22.a, y_22.c, y_22.l, u_37, n_41⟩ : DX).dat.foldE).2)) rfl) <| jg 5 rfl (by kernel_rfl) (NP.th NP.body) (by kernel_rfl) (by kernel_rfl) rfl rfl rfl (cB hbt1) (jD (v := iv y_43.dat.recov.2) rfl) <| jg 6 rfl (by kernel_rfl) (NP.th NP.body) (by kernel_rfl) (by kernel_rfl) rfl rfl rfl (cB hbt1) (kO rfl rfl) <| jL 7 rfl (jh (v := .bool (decide (y_43.dat.recov.2 = 2))) (cB hbt1) rfl) <| jL 8 rfl (jD (v := .bool (decide (y_43.dat.recov.2 = 2))) rfl) ?_
  have h_64 : y_43.dat.recov.2 = 2 := (by first | rw [hfr] | rw [hzr] | rw [hfr, hzr])
  refine jg 9 rfl (by kernel_rfl) (NP.th NP.body) (by kernel_rfl) (by kernel_rfl) rfl rfl rfl (cB (dT h_64)) (jD (v := iv y_53.dat.recov.2) rfl) <| jg 10 rfl (by kernel_rfl) (NP.th NP.body) (by kernel_rfl) (by kernel_rfl) rfl rfl rfl (cB (dT h_64)) (kO rfl rfl) <| jL 11 rfl (jh (v := .bool (decide (y_53.dat.recov.2 = 2))) (cB (dT h_64)) rfl) <| jL 12 rfl (jD (v := .bool (decide (y_53.dat.recov.2 = 2))) rfl) ?_
  have h_65 : y_53.dat.recov.2 = 2 := (by first | rw [hfr] | rw [hzr] | rw [hfr, hzr])
  refine jg 13 rfl (by kernel_rfl) (NP.th NP.body) (by kernel_rfl) (by kernel_rfl) rfl rfl rfl (cB (dT h_65)) (jD (v := .slice a_58 y_43.dat.recov.1.length c_59) rfl) <| jg 14 rfl (by kernel_rfl) (NP.th NP.body) (by kernel_rfl) (by kernel_rfl) rfl rfl rfl (cB (dT h_65)) (jD (v := .slice a_61 y_53.dat.recov.1.length c_62) rfl) <| jj (i := 15) ?_
  refine kQ rfl rfl rfl rfl (cB (dT h_65)) (jI [] Tryz.call34 rfl (C_sameCells a_58 a_61 c_59 c_62 y_43.dat.recov.1 y_53.dat.recov.1 (by omega)) rfl (fun w hw => ⟨hw.see (i := 1) rfl, hw.see (i := 0) rfl⟩)) ?_
  rintro _ _ ⟨_, ⟨rfl, rfl⟩, rfl⟩
  refine ⟨(by simp), ?_⟩
  refine jL 16 rfl (jh (v := .bool (decide (y_43.dat.recov.1 = y_53.dat.recov.1))) (cB (dT h_65)) rfl) <| jL 17 rfl (jD (v := .bool (decide (y_43.dat.recov.1 = y_53.dat.recov.1))) rfl) ?_
  have h_66 : y_43.dat.recov.1 = y_53.dat.recov.1 := (by rw [hfr, hzr])
  refine jg 18 rfl (by kernel_rfl) (NP.th NP.body) (by kernel_rfl) (by kernel_rfl) rfl rfl rfl (cB (dT h_66)) (jD (v := .slice a_61 y_53.dat.recov.1.length c_62) rfl) <| jg 20 rfl (by kernel_rfl) (NP.th NP.body) (by kernel_rfl) (by kernel_rfl) rfl rfl rfl (cB (dT h_66)) (jD (v := .slice l_2a l_2.length l_2c) rfl) <| jg 21 rfl (by kernel_rfl) (NP.th NP.body) (by kernel_rfl) (by kernel_rfl) rfl rfl rfl (cB (dT h_66)) (jk (i := 0) Tryz.underlying41 gA hr_26 hr_26b rfl rfl (by omega)) ?_
  refine JA.two (i := 19) (j := 22) (by kernel_rfl) ?_ ?_
  · refine kQ rfl rfl rfl rfl (cB (dT h_66)) (jI [] Tryz.call35 rfl (C_getKey a_61 c_62 y_53.dat.recov.1 [98] (by omega)) rfl (fun w hw => hw.see (i := 0) rfl)) ?_
    rintro _ _ ⟨_, ⟨rfl, rfl⟩, rfl⟩
    refine ⟨(by simp), ?_⟩
    refine jj (i := 22) ?_
    refine kQ rfl rfl rfl rfl (cB (dT h_66)) (jP (ka 13 (v := iv (l_2.getD 0 0)) rfl rfl kq (atI (by omega)))) ?_
    rintro _ _ ⟨rfl, rfl⟩
    refine ⟨(by simp), ?_⟩
    refine jj (i := 23) ?_
    refine kQ rfl rfl rfl rfl (cB (dT h_66)) (jI [] Tryz.call29 rfl (C_decimal (l_2.getD 0 0) (by omega) (by omega)) rfl (fun _ _ => trivial)) ?_
    rintro _ _ ⟨_, ⟨rfl, rfl⟩, rfl⟩
    have hdl_68 := dec_len (n := l_2.getD 0 0) (by omega) (by omega)
    refine ⟨(by simp), ?_⟩
    refine jg 24 rfl (by kernel_rfl) (NP.th NP.body) (by kernel_rfl) (by kernel_rfl) rfl rfl rfl (cB (dT h_66)) (PO.eqlS rfl rfl) <| jL 25 rfl (jh (v := .bool (decide ((getKey y_53.dat.recov.1 [98]) = (dec (l_2.getD 0 0))))) (cB (dT h_66)) rfl) <| jL 26 rfl (jD (v := .bool (decide ((getKey y_53.dat.recov.1 [98]) = (dec (l_2.getD 0 0))))) rfl) ?_
    have h_69 : (getKey y_53.dat.recov.1 [98]) = (dec (l_2.getD 0 0)) := (by rw [hzr]; exact getKey_put (by decide) hune (by omega))
    refine kK 27 rfl (by kernel_rfl) (NP.th NP.body) (by kernel_rfl) (by kernel_rfl) (by kernel_rfl) rfl rfl rfl (cB (dT h_69)) (jO 0 (vs := [.slice y_53.a y_53.l.length y_53.c, str y_53.jt, iv y_53.js]) rfl rfl ke kd rfl rfl) <| kK 29 rfl (by kernel_rfl) (NP.th NP.body) (by kernel_rfl) (by kernel_rfl) (by kernel_rfl) rfl rfl rfl (cB (dT h_69)) (jO 1 (vs := [.slice y_22.a y_22.l.length y_22.c, str u_37, iv n_41]) rfl rfl ke kd rfl rfl) <| jj (i := 28) ?_
    refine kQ rfl rfl rfl rfl (cB (dT h_69)) (jI [] Tryz.call36 rfl (Y_jsize y_53 hz_55.k2) rfl (fun _ _ => trivial)) ?_
    rintro _ _ ⟨_, ⟨rfl, rfl⟩, rfl⟩
    refine ⟨(by simp), ?_⟩
    refine jj (i := 30) ?_
    refine kQ rfl rfl rfl rfl (cB (dT h_69)) (jI [] Tryz.call36 rfl (Y_jsize (⟨y_22.a, y_22.c, y_22.l, u_37, n_41⟩ : DX) hN2z.k2) rfl (fun _ _ => trivial)) ?_
    rintro _ _ ⟨_, ⟨rfl, rfl⟩, rfl⟩
    refine ⟨(by simp), ?_⟩
    refine jg 31 rfl (by kernel_rfl) (NP.th NP.body) (by kernel_rfl) (by kernel_rfl) rfl rfl rfl (cB (dT h_69)) (jl rfl rfl) <| jL 32 rfl (jh (v := .bool (decide (((y_53.jt.length : Nat) : Int) < ((u_37.length : Nat) : Int)))) (cB (dT h_69)) rfl) <| jL 33 rfl (jG (v := .bool (decide (((y_53.jt.length : Nat) : Int) < ((u_37.length : Nat) : Int)))) rfl) <| kI (by kernel_rfl) <| jB <| jN ?_
    have h_70 : ((y_53.jt.length : Nat) : Int) < ((u_37.length : Nat) : Int) := (by rw [hzj, hq2, List.length_append]; omega)
    refine jV (.inl rfl) rfl (jJ (v := .bool true) (cB (dT h_70))) (List.nil_sublist _) ?_
    exact ⟨rfl, rfl⟩
  refine kQ rfl rfl rfl rfl (cB (dT h_66)) (jP (ka 13 (v := iv (l_2.getD 0 0)) rfl rfl kq (atI (by omega)))) ?_
  rintro _ _ ⟨rfl, rfl⟩
  refine ⟨(by simp), ?_⟩
  refine jj (i := 19) ?_
  refine kQ rfl rfl rfl rfl (cB (dT h_66)) (jI [] Tryz.call35 rfl (C_getKey a_61 c_62 y_53.dat.recov.1 [98] (by omega)) rfl (fun w hw => hw.see (i := 0) rfl)) ?_
  rintro _ _ ⟨_, ⟨rfl, rfl⟩, rfl⟩
  refine ⟨(by simp), ?_⟩
  refine jj (i := 23) ?_
  refine kQ rfl rfl rfl rfl (cB (dT h_66)) (jI [] Tryz.call29 rfl (C_decimal (l_2.getD 0 0) (by omega) (by omega)) rfl (fun _ _ => trivial)) ?_
  rintro _ _ ⟨_, ⟨rfl, rfl⟩, rfl⟩
  have hdl_72 := dec_len (n := l_2.getD 0 0) (by omega) (by omega)
  refine ⟨(by simp), ?_⟩
  refine jg 24 rfl (by kernel_rfl) (NP.th NP.body) (by kernel_rfl) (by kernel_rfl) rfl rfl rfl (cB (dT h_66)) (PO.eqlS rfl rfl) <| jL 25 rfl (jh (v := .bool (decide ((getKey y_53.dat.recov.1 [98]) = (dec (l_2.getD 0 0))))) (cB (dT h_66)) rfl) <| jL 26 rfl (jD (v := .bool (decide ((getKey y_53.dat.recov.1 [98]) = (dec (l_2.getD 0 0))))) rfl) ?_
  have h_73 : (getKey y_53.dat.recov.1 [98]) = (dec (l_2.getD 0 0)) := (by rw [hzr]; exact getKey_put (by decide) hune (by omega))
  refine kK 27 rfl (by kernel_rfl) (NP.th NP.body) (by kernel_rfl) (by kernel_rfl) (by kernel_rfl) rfl rfl rfl (cB (dT h_73)) (jO 0 (vs := [.slice y_53.a y_53.l.length y_53.c, str y_53.jt, iv y_53.js]) rfl rfl ke kd rfl rfl) <| kK 29 rfl (by kernel_rfl) (NP.th NP.body) (by kernel_rfl) (by kernel_rfl) (by kernel_rfl) rfl rfl rfl (cB (dT h_73)) (jO 1 (vs := [.slice y_22.a y_22.l.length y_22.c, str u_37, iv n_41]) rfl rfl ke kd rfl rfl) <| jj (i := 28) ?_
  refine kQ rfl rfl rfl rfl (cB (dT h_73)) (jI [] Tryz.call36 rfl (Y_jsize y_53 hz_55.k2) rfl (fun _ _ => trivial)) ?_
  rintro _ _ ⟨_, ⟨rfl, rfl⟩, rfl⟩
  refine ⟨(by simp), ?_⟩
  refine jj (i := 30) ?_
  refine kQ rfl rfl rfl rfl (cB (dT h_73)) (jI [] Tryz.call36 rfl (Y_jsize (⟨y_22.a, y_22.c, y_22.l, u_37, n_41⟩ : DX) hN2z.k2) rfl (fun _ _ => trivial)) ?_
  rintro _ _ ⟨_, ⟨rfl, rfl⟩, rfl⟩
  refine ⟨(by simp), ?_⟩
  refine jg 31 rfl (by kernel_rfl) (NP.th NP.body) (by kernel_rfl) (by kernel_rfl) rfl rfl rfl (cB (dT h_73)) (jl rfl rfl) <| jL 32 rfl (jh (v := .bool (decide (((y_53.jt.length : Nat) : Int) < ((u_37.length : Nat) : Int)))) (cB (dT h_73)) rfl) <| jL 33 rfl (jG (v := .bool (decide (((y_53.jt.length : Nat) : Int) < ((u_37.length : Nat) : Int)))) rfl) <| kI (by kernel_rfl) <| jB <| jN ?_
  have h_74 : ((y_53.jt.length : Nat) : Int) < ((u_37.length : Nat) : Int) := (by rw [hzj, hq2, List.length_append]; omega)
  refine jV (.inl rfl) rfl (jJ (v := .bool true) (cB (dT h_74))) (List.nil_sublist _) ?_
  exact ⟨rfl, rfl⟩

end Go.Proofs.YtjncpgcccgdeiaaGreatDoor
