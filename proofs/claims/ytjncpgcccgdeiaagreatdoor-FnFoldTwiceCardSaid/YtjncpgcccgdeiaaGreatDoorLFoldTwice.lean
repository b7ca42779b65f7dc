/-
  laws.FnFoldTwice walked: it returns true.
-/
import Derived.Test.YtjncpgcccgdeiaaGreatDoorS62DRAWS
set_option linter.unusedSimpArgs false
set_option linter.unusedVariables false
set_option linter.unnecessarySimpa false
namespace Go.Proofs.YtjncpgcccgdeiaaGreatDoor
open Go Go.RowKit
attribute [local irreducible] JL JC JQ JO LO PO JA JX Ct

set_option maxRecDepth 8000 in
set_option maxHeartbeats 4000000 in
theorem L_FoldTwice (pa : Option Addr) (pc : Nat) (p : Str) :
    Ct Tryz.prog 9 [.slice pa p.length pc] [] (fun w => Sees w (.slice pa p.length pc) 1 p.length (p.map encB) ∧ HexOk w) (fun v A' => v = .bool true ∧ A' = []) := by
  refine Ct.introL Tryz.func9 rfl Tryz.ntmps9 (lb rfl) fun w0 hpre hlow => ?_
  have hs_pa : Sees w0 _ _ _ _ := hpre.1
  refine jC <| jF <| jA (jG (v := .bool false) rfl) <| jE <| jB <| jC <| jC <| jF <| jA (jD (v := .slice pa p.length pc) rfl) ?_
  refine jH rfl (jI [] Tryz.call24 rfl (N_big pa pc p) rfl (fun _ _ => trivial)) ?_
  rintro _ _ ⟨_, ⟨rfl, rfl⟩, rfl⟩
  refine jE <| jB ?_
  by_cases h_1 : 1048576 < ((p.length : Nat) : Int)
  · refine jW (cB (dT h_1)) <| jC <| jF <| jA (jG (v := .bool true) rfl) <| jE <| jB <| jN <| jX <| jV (.inl rfl) rfl (jJ (v := .bool true) rfl) (List.nil_sublist _) ?_
    exact ⟨rfl, rfl⟩
  refine jR (cB (dF h_1)) <| jT <| jB <| jC <| jF <| jA (jD (v := .slice pa p.length pc) rfl) ?_
  refine jH rfl (jI [] Tryz.call37 rfl (D_dFolded pa pc p (by omega)) rfl (fun w hw => hw.seeOut_ hs_pa nM)) ?_
  rintro _ _ ⟨_, ⟨y_2, hd_3, rfl, rfl⟩, rfl⟩
  refine jH rfl (jo (z := .agg #[.slice none 0 0, str [], iv 0]) (cs := [.slice none 0 0, str [], iv 0]) ko rfl) ?_
  rintro _ _ ⟨b_7, rfl, rfl⟩
  refine jH rfl (ja 0 (vs := [.slice y_2.a y_2.l.length y_2.c, str y_2.jt, iv y_2.js]) (cs' := [.slice y_2.a y_2.l.length y_2.c, str y_2.jt, iv y_2.js]) rfl rfl rfl rfl kd rfl rfl (lb rfl) rfl) ?_
  rintro _ _ rfl
  refine jE <| jB <| jC <| jF <| jK (jO 0 (vs := [.slice y_2.a y_2.l.length y_2.c, str y_2.jt, iv y_2.js]) rfl rfl ke kd rfl rfl) ?_
  refine jH rfl (jI [] Tryz.call23 rfl (Y_iFolded y_2 hd_3.z hd_3.l) rfl (fun w hw => ⟨hw.seeRows 1 rfl, hw.hex hlow hpre.2⟩)) ?_
  rintro _ _ ⟨_, ⟨y_8, hy_9, rfl, rfl⟩, rfl⟩
  have hz_10 : y_8.dat.okz := by rw [hy_9]; exact folded_okz hd_3.z
  have hl_11 : y_8.dat.lim 1000000000 := by rw [hy_9]; exact folded_lim hd_3.z hd_3.l (by decide)
  refine jA (jD (v := .tuple #[.agg #[.slice y_8.a y_8.l.length y_8.c, str y_8.jt, iv y_8.js], .bool ((y_2.dat.folded).2)]) rfl) <| jA (je (v := .agg #[.slice y_8.a y_8.l.length y_8.c, str y_8.jt, iv y_8.js]) rfl rfl) <| jA (je (v := .bool ((y_2.dat.folded).2)) rfl rfl) ?_
  refine jH rfl (jo (z := .agg #[.slice none 0 0, str [], iv 0]) (cs := [.slice none 0 0, str [], iv 0]) ko rfl) ?_
  rintro _ _ ⟨b_12, rfl, rfl⟩
  refine jH rfl (ja 0 (vs := [.slice y_8.a y_8.l.length y_8.c, str y_8.jt, iv y_8.js]) (cs' := [.slice y_8.a y_8.l.length y_8.c, str y_8.jt, iv y_8.js]) rfl rfl rfl rfl kd rfl rfl (lb rfl) rfl) ?_
  rintro _ _ rfl
  refine jA (jG (v := .bool ((y_2.dat.folded).2)) rfl) <| jE <| jB <| jC <| jF <| jK (jO 0 (vs := [.slice y_8.a y_8.l.length y_8.c, str y_8.jt, iv y_8.js]) rfl rfl ke kd rfl rfl) ?_
  refine jH rfl (jI [] Tryz.call23 rfl (Y_iFolded y_8 hz_10 hl_11) rfl (fun w hw => ⟨hw.seeRows 1 rfl, hw.hex hlow hpre.2⟩)) ?_
  rintro _ _ ⟨_, ⟨y_13, hy_14, rfl, rfl⟩, rfl⟩
  have hz_15 : y_13.dat.okz := by rw [hy_14]; exact folded_okz hz_10
  have hl_16 : y_13.dat.lim 1000000000 := by rw [hy_14]; exact folded_lim hz_10 hl_11 (by decide)
  refine jA (jD (v := .tuple #[.agg #[.slice y_13.a y_13.l.length y_13.c, str y_13.jt, iv y_13.js], .bool ((y_8.dat.folded).2)]) rfl) <| jA (je (v := .agg #[.slice y_13.a y_13.l.length y_13.c, str y_13.jt, iv y_13.js]) rfl rfl) <| jA (je (v := .bool ((y_8.dat.folded).2)) rfl rfl) ?_
  refine jH rfl (jo (z := .agg #[.slice none 0 0, str [], iv 0]) (cs := [.slice none 0 0, str [], iv 0]) ko rfl) ?_
  rintro _ _ ⟨b_17, rfl, rfl⟩
  refine jH rfl (ja 0 (vs := [.slice y_13.a y_13.l.length y_13.c, str y_13.jt, iv y_13.js]) (cs' := [.slice y_13.a y_13.l.length y_13.c, str y_13.jt, iv y_13.js]) rfl rfl rfl rfl kd rfl rfl (lb rfl) rfl) ?_
  rintro _ _ rfl
  refine jA (jG (v := .bool ((y_8.dat.folded).2)) rfl) <| jE <| jB <| jC <| jF ?_
  refine jH rfl (jI [] Tryz.call40 rfl (Y_specDiskNew none 0 [] (by first | omega | simp)) rfl (fun w hw => sees_nil _)) ?_
  rintro _ _ ⟨_, ⟨d_18, hd_19, rfl, rfl⟩, rfl⟩
  have hd_20 : Drawn2 d_18 := drawn_new hd_19 ⟨by simp, fun c hc => by cases hc⟩
  have hj_21 := hd_20.j
  refine jH rfl (jo (z := .agg #[.slice none 0 0, str [], iv 0]) (cs := [.slice none 0 0, str [], iv 0]) ko rfl) ?_
  rintro _ _ ⟨b_22, rfl, rfl⟩
  refine jH rfl (ja 0 (vs := [.slice d_18.a d_18.l.length d_18.c, str d_18.jt, iv d_18.js]) (cs' := [.slice d_18.a d_18.l.length d_18.c, str d_18.jt, iv d_18.js]) rfl rfl rfl rfl kd rfl rfl (lb rfl) rfl) ?_
  rintro _ _ rfl
  refine jE <| jB <| jC <| jF <| jA (kW (ps := [(0, str [97]), (1, str [98])]) (cs := [str [97], str [98]]) rfl (by kernel_rfl)) ?_
  refine jH rfl (kH (ps := [(0, .agg #[str [97], str [98]])]) (cur := #[str [97], str [98]]) kf kh kw rfl (by kernel_rfl) (by decide) (by decide)) ?_
  rintro _ _ ⟨a_23, rfl, rfl⟩
  refine jH rfl (jI [] Tryz.call41 rfl (Y_sRec 1 a_23 1 ([([97], [98])] : List Cell) (short_okC (fun c hc => by simp only [List.mem_cons, List.not_mem_nil, or_false] at hc; subst hc; exact ⟨by dsimp only; first | decide | omega, by dsimp only; first | decide | omega⟩) (by simp))) rfl (fun w hw => hw.see (i := 0) rfl)) ?_
  rintro _ _ ⟨_, ⟨rfl, rfl⟩, rfl⟩
  have hrl_24 := recTextL 1 ([([97], [98])] : List Cell)
  refine jA (jQ fo31_1 rfl) <| jA (jQ fo29_0 rfl) ?_
  refine jH rfl (ja 1 (vs := [str (recText 1 ([([97], [98])] : List Cell))]) (cs' := [.slice d_18.a d_18.l.length d_18.c, str (recText 1 ([([97], [98])] : List Cell)), iv d_18.js]) rfl rfl rfl rfl kt rfl rfl (lb rfl) rfl) ?_
  rintro _ _ rfl
  refine jE <| jB <| jC ?_
  have hoN : Drawn2 (⟨d_18.a, d_18.c, d_18.l, recText 1 ([([97], [98])] : List Cell), d_18.js⟩ : DX) := hd_20.of rfl (by show (recText 1 _).length ≤ _; omega)
  have hoE : (⟨d_18.a, d_18.c, d_18.l, recText 1 ([([97], [98])] : List Cell), d_18.js⟩ : DX).dat = ⟨[⟨0, [], true⟩, ⟨0, [], false⟩], recText 1 [([97], [98])], 0⟩ := by show (⟨d_18.l.map OX.t, _, d_18.js⟩ : DD) = _; rw [show d_18.l.map OX.t = _ from congrArg DD.slots hd_19, show d_18.js = 0 from congrArg DD.js hd_19]; rfl
  have hoF := one_folded (k := [97]) (v := [98]) (j := 0) (by decide) (by decide) (by decide) rfl (by decide) (by omega)
  rw [← hoE] at hoF
  obtain ⟨hoF1, hoF2, hoF3⟩ := hoF
  refine jF <| jK (jO 1 (vs := [.slice d_18.a d_18.l.length d_18.c, str (recText 1 ([([97], [98])] : List Cell)), iv d_18.js]) rfl rfl ke kd rfl rfl) ?_
  refine jH rfl (jI [] Tryz.call23 rfl (Y_iFolded (⟨d_18.a, d_18.c, d_18.l, recText 1 ([([97], [98])] : List Cell), d_18.js⟩ : DX) hoN.z hoN.l) rfl (fun w hw => ⟨hw.seeRows 2 rfl, hw.hex hlow hpre.2⟩)) ?_
  rintro _ _ ⟨_, ⟨y_25, hy_26, rfl, rfl⟩, rfl⟩
  have hz_27 : y_25.dat.okz := by rw [hy_26]; exact folded_okz hoN.z
  have hl_28 : y_25.dat.lim 1000000000 := by rw [hy_26]; exact folded_lim hoN.z hoN.l (by decide)
  refine jA (jD (v := .tuple #[.agg #[.slice y_25.a y_25.l.length y_25.c, str y_25.jt, iv y_25.js], .bool (((⟨d_18.a, d_18.c, d_18.l, recText 1 ([([97], [98])] : List Cell), d_18.js⟩ : DX).dat.folded).2)]) rfl) <| jA (je (v := .agg #[.slice y_25.a y_25.l.length y_25.c, str y_25.jt, iv y_25.js]) rfl rfl) <| jA (je (v := .bool (((⟨d_18.a, d_18.c, d_18.l, recText 1 ([([97], [98])] : List Cell), d_18.js⟩ : DX).dat.folded).2)) rfl rfl) ?_
  refine jH rfl (jo (z := .agg #[.slice none 0 0, str [], iv 0]) (cs := [.slice none 0 0, str [], iv 0]) ko rfl) ?_
  rintro _ _ ⟨b_29, rfl, rfl⟩
  refine jH rfl (ja 0 (vs := [.slice y_25.a y_25.l.length y_25.c, str y_25.jt, iv y_25.js]) (cs' := [.slice y_25.a y_25.l.length y_25.c, str y_25.jt, iv y_25.js]) rfl rfl rfl rfl kd rfl rfl (lb rfl) rfl) ?_
  rintro _ _ rfl
  refine jA (jG (v := .bool (((⟨d_18.a, d_18.c, d_18.l, recText 1 ([([97], [98])] : List Cell), d_18.js⟩ : DX).dat.folded).2)) rfl) <| jE <| jB <| jC <| kJ [bk b_17 31 [.slice y_13.a y_13.l.length y_13.c, str y_13.jt, iv y_13.js], bk b_12 31 [.slice y_8.a y_8.l.length y_8.c, str y_8.jt, iv y_8.js], bk b_7 31 [.slice y_2.a y_2.l.length y_2.c, str y_2.jt, iv y_2.js]] 21 mixed (by simp) <| jL 0 rfl (jD (v := .bool ((y_2.dat.folded).2)) rfl) <| jL 1 rfl (jp rfl) <| jL 2 rfl (jD (v := .bool (!((y_2.dat.folded).2))) rfl) ?_
  rcases Bool.eq_false_or_eq_true ((y_2.dat.folded).2) with h_30 | h_30
  · obtain ⟨hfj, hff⟩ := fold_twice h_30
    have hfx : (y_8.dat.folded).2 = false := by rw [hy_9, hff]
    have hjx : y_8.jt = [] := (congrArg DD.jt hy_9).trans hfj
    refine jg 3 rfl (by kernel_rfl) (NP.th NP.body) (by kernel_rfl) (by kernel_rfl) rfl rfl rfl (cB (cN h_30)) (jD (v := .bool ((y_8.dat.folded).2)) rfl) <| jg 4 rfl (by kernel_rfl) (NP.th NP.body) (by kernel_rfl) (by kernel_rfl) rfl rfl rfl (cB (cN h_30)) (jp rfl) <| jg 5 rfl (by kernel_rfl) (NP.th NP.body) (by kernel_rfl) (by kernel_rfl) rfl rfl rfl (cB (cN h_30)) (jD (v := .bool (!((y_8.dat.folded).2))) rfl) <| kK 6 rfl (by kernel_rfl) (NP.th NP.body) (by kernel_rfl) (by kernel_rfl) (by kernel_rfl) rfl rfl rfl (cB (cN hfx)) (jO 0 (vs := [.slice y_13.a y_13.l.length y_13.c, str y_13.jt, iv y_13.js]) rfl rfl ke kd rfl rfl) <| kK 7 rfl (by kernel_rfl) (NP.th NP.body) (by kernel_rfl) (by kernel_rfl) (by kernel_rfl) rfl rfl rfl (cB (cN hfx)) (jO 1 (vs := [.slice y_8.a y_8.l.length y_8.c, str y_8.jt, iv y_8.js]) rfl rfl ke kd rfl rfl) <| jj (i := 8) ?_
    refine kQ rfl rfl rfl rfl (cB (cN hfx)) (jI [] Tryz.call39 rfl (Y_sameDisk y_13 y_8 hl_16) rfl (fun w hw => ⟨hw.seeRows 6 rfl, hw.seeRows 8 rfl⟩)) ?_
    rintro _ _ ⟨_, ⟨rfl, rfl⟩, rfl⟩
    refine ⟨(by simp), ?_⟩
    refine jg 9 rfl (by kernel_rfl) (NP.th NP.body) (by kernel_rfl) (by kernel_rfl) rfl rfl rfl (cB (cN h_30)) (jh (v := .bool (decide (y_13.dat = y_8.dat))) (cB (cN hfx)) rfl) <| jg 10 rfl (by kernel_rfl) (NP.th NP.body) (by kernel_rfl) (by kernel_rfl) rfl rfl rfl (cB (cN h_30)) (jD (v := .bool (decide (y_13.dat = y_8.dat))) rfl) ?_
    have h_31 : y_13.dat = y_8.dat := (by simp only [hy_9, hy_14, hd_19, hy_26, hff])
    refine kK 11 rfl (by kernel_rfl) (NP.th NP.body) (by kernel_rfl) (by kernel_rfl) (by kernel_rfl) rfl rfl rfl (cB (dT h_31)) (jO 1 (vs := [.slice y_8.a y_8.l.length y_8.c, str y_8.jt, iv y_8.js]) rfl rfl ke kd rfl rfl) <| kK 13 rfl (by kernel_rfl) (NP.th NP.body) (by kernel_rfl) (by kernel_rfl) (by kernel_rfl) rfl rfl rfl (cB (dT h_31)) (jO 2 (vs := [.slice y_2.a y_2.l.length y_2.c, str y_2.jt, iv y_2.js]) rfl rfl ke kd rfl rfl) <| jj (i := 12) ?_
    refine kQ rfl rfl rfl rfl (cB (dT h_31)) (jI [] Tryz.call36 rfl (Y_jsize y_8 hz_10.k2) rfl (fun _ _ => trivial)) ?_
    rintro _ _ ⟨_, ⟨rfl, rfl⟩, rfl⟩
    refine ⟨(by simp), ?_⟩
    refine jj (i := 14) ?_
    refine kQ rfl rfl rfl rfl (cB (dT h_31)) (jI [] Tryz.call36 rfl (Y_jsize y_2 hd_3.z.k2) rfl (fun _ _ => trivial)) ?_
    rintro _ _ ⟨_, ⟨rfl, rfl⟩, rfl⟩
    refine ⟨(by simp), ?_⟩
    refine jg 15 rfl (by kernel_rfl) (NP.th NP.body) (by kernel_rfl) (by kernel_rfl) rfl rfl rfl (cB (dT h_31)) (PO.leq rfl rfl) <| jg 16 rfl (by kernel_rfl) (NP.th NP.body) (by kernel_rfl) (by kernel_rfl) rfl rfl rfl (cB (cN h_30)) (jh (v := .bool (decide (((y_8.jt.length : Nat) : Int) ≤ ((y_2.jt.length : Nat) : Int)))) (cB (dT h_31)) rfl) <| jL 17 rfl (ji (v := .bool (decide (((y_8.jt.length : Nat) : Int) ≤ ((y_2.jt.length : Nat) : Int)))) (cB (cN h_30)) rfl) <| jL 18 rfl (jD (v := .bool (decide (((y_8.jt.length : Nat) : Int) ≤ ((y_2.jt.length : Nat) : Int)))) rfl) ?_
    have h_32 : ((y_8.jt.length : Nat) : Int) ≤ ((y_2.jt.length : Nat) : Int) := (by rw [hjx]; simp only [List.length_nil]; omega)
    refine jg 19 rfl (by kernel_rfl) (NP.th NP.body) (by kernel_rfl) (by kernel_rfl) rfl rfl rfl (cB (dT h_32)) (jD (v := .bool (((⟨d_18.a, d_18.c, d_18.l, recText 1 ([([97], [98])] : List Cell), d_18.js⟩ : DX).dat.folded).2)) rfl) <| jL 20 rfl (jh (v := .bool (((⟨d_18.a, d_18.c, d_18.l, recText 1 ([([97], [98])] : List Cell), d_18.js⟩ : DX).dat.folded).2)) (cB (dT h_32)) rfl) <| jL 21 rfl (jG (v := .bool (((⟨d_18.a, d_18.c, d_18.l, recText 1 ([([97], [98])] : List Cell), d_18.js⟩ : DX).dat.folded).2)) rfl) <| kI (by kernel_rfl) <| jB <| jN <| jV (.inl rfl) rfl (jJ (v := .bool true) (cB hoF1)) (List.nil_sublist _) ?_
    exact ⟨rfl, rfl⟩
  refine jd 3 (b := true) rfl (by kernel_rfl) (NP.th NP.body) (by kernel_rfl) (by kernel_rfl) rfl rfl rfl (cB (cN h_30)) <| jd 4 (b := true) rfl (by kernel_rfl) (NP.th NP.body) (by kernel_rfl) (by kernel_rfl) rfl rfl rfl (cB (cN h_30)) <| jd 5 (b := true) rfl (by kernel_rfl) (NP.th NP.body) (by kernel_rfl) (by kernel_rfl) rfl rfl rfl (cB (cN h_30)) <| kE 6 rfl (by kernel_rfl) (NP.th NP.body) (by kernel_rfl) (by kernel_rfl) rfl rfl rfl rfl <| kE 7 rfl (by kernel_rfl) (NP.th NP.body) (by kernel_rfl) (by kernel_rfl) rfl rfl rfl rfl <| kE 8 rfl (by kernel_rfl) (NP.th NP.body) (by kernel_rfl) (by kernel_rfl) rfl rfl rfl rfl <| jd 9 (b := true) rfl (by kernel_rfl) (NP.th NP.body) (by kernel_rfl) (by kernel_rfl) rfl rfl rfl (cB (cN h_30)) <| jd 10 (b := true) rfl (by kernel_rfl) (NP.th NP.body) (by kernel_rfl) (by kernel_rfl) rfl rfl rfl (cB (cN h_30)) <| kE 11 rfl (by kernel_rfl) (NP.th NP.body) (by kernel_rfl) (by kernel_rfl) rfl rfl rfl rfl <| kE 12 rfl (by kernel_rfl) (NP.th NP.body) (by kernel_rfl) (by kernel_rfl) rfl rfl rfl rfl ?_
  refine kE 13 rfl (by kernel_rfl) (NP.th NP.body) (by kernel_rfl) (by kernel_rfl) rfl rfl rfl rfl <| kE 14 rfl (by kernel_rfl) (NP.th NP.body) (by kernel_rfl) (by kernel_rfl) rfl rfl rfl rfl <| kE 15 rfl (by kernel_rfl) (NP.th NP.body) (by kernel_rfl) (by kernel_rfl) rfl rfl rfl rfl <| jd 16 (b := true) rfl (by kernel_rfl) (NP.th NP.body) (by kernel_rfl) (by kernel_rfl) rfl rfl rfl (cB (cN h_30)) <| jL 17 rfl (jh (v := .bool true) (cB (cN h_30)) rfl) <| jL 18 rfl (jD (v := .bool true) rfl) <| jg 19 rfl (by kernel_rfl) (NP.th NP.body) (by kernel_rfl) (by kernel_rfl) rfl rfl rfl (cB rfl) (jD (v := .bool (((⟨d_18.a, d_18.c, d_18.l, recText 1 ([([97], [98])] : List Cell), d_18.js⟩ : DX).dat.folded).2)) rfl) <| jL 20 rfl (jh (v := .bool (((⟨d_18.a, d_18.c, d_18.l, recText 1 ([([97], [98])] : List Cell), d_18.js⟩ : DX).dat.folded).2)) (cB rfl) rfl) <| jL 21 rfl (jG (v := .bool (((⟨d_18.a, d_18.c, d_18.l, recText 1 ([([97], [98])] : List Cell), d_18.js⟩ : DX).dat.folded).2)) rfl) <| kI (by kernel_rfl) ?_
  refine jB <| jN <| jV (.inl rfl) rfl (jJ (v := .bool true) (cB hoF1)) (List.nil_sublist _) ?_
  exact ⟨rfl, rfl⟩

end Go.Proofs.YtjncpgcccgdeiaaGreatDoor
