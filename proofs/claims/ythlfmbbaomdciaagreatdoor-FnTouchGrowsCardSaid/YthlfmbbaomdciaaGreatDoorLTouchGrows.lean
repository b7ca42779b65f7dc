/-
Texts of the walk, joined: what each one proves stands at its theorems.
-/
import Derived.Test.YthlfmbbaomdciaaGreatDoorXTouchGrowsS72TOUCH
set_option linter.unusedSimpArgs false
set_option linter.unusedVariables false
set_option linter.unnecessarySimpa false
set_option maxHeartbeats 4000000
set_option maxRecDepth 4000
namespace Go.Proofs.YthlfmbbaomdciaaGreatDoor
open Go Go.RowKit
theorem boot_touch {m : MS} {o : List AN} (e : (⟨bootS, [], []⟩ : MS).runA [⟨1, ⟨1, [120], [], 0, 0, []⟩⟩] [] = (m, o)) : m.w.length = 3 := by
 have h : ((⟨bootS, [], []⟩ : MS).runA [⟨1, ⟨1, [120], [], 0, 0, []⟩⟩] []).1.w.length = 3 := by decide +kernel
 rw [e] at h
 exact h
attribute [local irreducible] JL JC JQ JO LO PO JA JX Ct

set_option maxRecDepth 8000 in
theorem L_TouchGrows (pa : Option Addr) (pc : Nat) (p : Str) :
   Ct Tryz.prog 4 [.slice pa p.length pc] [] (fun w => Sees w (.slice pa p.length pc) 1 p.length (p.map encB) ∧ HexOk w) (fun v A' => v = .bool true ∧ A' = []) := by
 refine Ct.introL Tryz.func4 rfl Tryz.ntmps4 (lb rfl) fun w0 hpre hlow => ?_
 have hs_pa : Sees w0 _ _ _ _ := hpre.1
 refine go ?_
 refine jN [] (N_big pa pc p) ?_
 refine go ?_
 by_cases h_1 : 1048576 < ((p.length : Nat) : Int)
 · refine go ?_
   exact jJ [] ⟨rfl, rfl⟩
 refine go ?_
 refine jA [] (D_DrawSerialTouch pa pc p (by omega)) (hpre := fun w hw => hw.seeOut_ hs_pa nM) ?_
 rintro _ _ ⟨l_2a, l_2c, l_2, l_4a, l_4c, l_4, f_3, f_5, rfl, rfl⟩
 have hO1_l_2 := f_3.1.1
 refine go ?_
 refine jA [] (D_dPlaces pa pc p (by omega)) (hpre := fun w hw => hw.seeOut_ hs_pa nM) ?_
 rintro _ _ ⟨l_7a, l_7c, l_7, f_8, rfl, rfl⟩
 refine go ?_
 refine jo fun hst => ?_
 obtain ⟨hr_10, hr_10b, -⟩ := row_some 0 rfl (by omega) hst
 refine jK (PO.indexAddrV (i := 0) kL kS hr_10 hr_10b rfl rfl (by omega)) <| jU (jr 0 (v := iv (l_7.getD 0 0)) rfl rfl kR (atI (by omega))) ?_
 refine go ?_
 obtain ⟨kk_11, hkk_12⟩ : ∃ kk_11 : Nat, l_7.getD 0 0 = ((kk_11 : Nat) : Int) := ⟨(l_7.getD 0 0).toNat, by have hlo_ := f_8.2 _ (getD_mem (d := 0) (show 0 < l_7.length by have hq_ := f_8.1; omega)); omega⟩
 first | refine kA 21 (v := nv kk_11) (congrArg (Value.int .i64) hkk_12) ?_ | refine jv 21 (v := nv kk_11) (congrArg (Value.int .i64) hkk_12) ?_ | refine kB 21 (v := nv kk_11) (congrArg (Value.int .i64) hkk_12) ?_ | refine kC 21 (v := nv kk_11) (congrArg (Value.int .i64) hkk_12) ?_
 have hmd_ := Nat.mod_lt (kk_11) (show 0 < l_4.length + 1 by omega)
 refine jK (PO.remN (c := ((kk_11 % (l_4.length + 1) : Nat) : Int)) rfl rfl (by omega) (by omega) (by omega)) ?_
 refine go ?_
 refine jF rfl (jR (ps := []) (cur := #[]) kh ks Tryz.zeroValue45 rfl (by kernel_rfl) (by decide) (by decide)) ?_
 rintro _ _ ⟨a_13, rfl, rfl⟩
 refine go ?_
 refine jo fun hst => ?_
 obtain ⟨hf_14m, hf_14x, hf_14s, hf_14l⟩ := fits_of hst (i := 3) rfl
 refine jK (PO.sliceVh (j := (kk_11 % (l_4.length + 1))) kh ks hf_14s rfl rfl (by omega)) ?_
 refine jF rfl (jX 0 (q := (kk_11 % (l_4.length + 1))) (news := (l_4.take (kk_11 % (l_4.length + 1))).flatMap encP) (n' := (l_4.take (kk_11 % (l_4.length + 1))).length) (cs' := (l_4.take (kk_11 % (l_4.length + 1))).flatMap encP) rfl kh kh Tryz.typeInfo45 rfl (by' := 80) rfl rfl rfl rfl rfl (fun w hw => Src.sees (hiP (hw.see (i := 3) rfl) (kk_11 % (l_4.length + 1)) (by omega)) (oneP _)) (by (try simp only [LE]); omega) (by (try simp only [LE]); omega) (by (try simp only [List.length_take, List.length_drop]); first | rfl | omega) rfl) ?_
 rintro _ _ ⟨a_15, c_16, rfl, rfl⟩
 obtain ⟨hok, hll⟩ := id f_5
 refine jA [] (I_serialTouch l_2a l_2c l_2 a_15 c_16 (l_4.take (kk_11 % (l_4.length + 1))) (by have hl_ := (f_3.1).1; omega) (by (try simp only [List.length_take, List.length_cons, List.length_nil]); omega) f_3.1 (by omega) (hok.take _) (grow 10935) (run_grow f_3.1.1 _) (fun j hj => Nat.le_trans (grow_le 10935 hj) (growS (by (try simp only [List.length_take]); omega))) (growTS (by (try simp only [List.length_take]); omega))) (hpre := fun w hw => ⟨hw.see (i := 2) rfl, hw.see (i := 0) rfl, hw.hex hlow hpre.2⟩) ?_
 rintro _ _ ⟨x_17, m_18, o_19, e_20, k_21, rfl, rfl⟩
 have hk5_m_18 : m_18.r.length ≤ 1000000000 ∧ m_18.w.length ≤ 1000000000 := ⟨Nat.le_trans (k_21).2.1 (growTS (by (try simp only [List.length_take]); omega)), Nat.le_trans (k_21).2.2.1 (growTS (by (try simp only [List.length_take]); omega))⟩
 refine jG [.slice none 0 0, .slice none 0 0] fun b_22 => ?_
 refine jD 0 [.slice x_17.a1 m_18.r.length x_17.c1, .slice x_17.a2 m_18.w.length x_17.c2] ?_
 refine go ?_
 refine jA [] (I_serialTouch l_2a l_2c l_2 l_4a l_4c l_4 (by have hl_ := (f_3.1).1; omega) (by (try simp only [List.length_take, List.length_cons, List.length_nil]); omega) f_3.1 (by omega) hok (grow 10935) (run_grow f_3.1.1 _) (fun j hj => Nat.le_trans (grow_le 10935 hj) (growS (by (try simp only [List.length_take]); omega))) (growTS (by (try simp only [List.length_take]); omega))) (hpre := fun w hw => ⟨hw.see (i := 5) rfl, hw.see (i := 6) rfl, hw.hex hlow hpre.2⟩) ?_
 rintro _ _ ⟨x_23, m_24, o_25, e_26, k_27, rfl, rfl⟩
 have hk5_m_24 : m_24.r.length ≤ 1000000000 ∧ m_24.w.length ≤ 1000000000 := ⟨Nat.le_trans (k_27).2.1 (growTS (by (try simp only [List.length_take]); omega)), Nat.le_trans (k_27).2.2.1 (growTS (by (try simp only [List.length_take]); omega))⟩
 refine jG [.slice none 0 0, .slice none 0 0] fun b_28 => ?_
 refine jD 0 [.slice x_23.a1 m_24.r.length x_23.c1, .slice x_23.a2 m_24.w.length x_23.c2] ?_
 refine go ?_
 refine jA [] (D_boot) ?_
 rintro _ _ ⟨l_29a, l_29c, l_29, e_31, f_30, rfl, rfl⟩
 refine jN [] (Y_named 1 [120]) ?_
 refine jK (je (ps := [(0, iv 1), (1, .agg #[iv 1, str [120], str [], iv 0, iv 0, str []])]) (cs := [iv 1, iv 1, str [120], str [], iv 0, iv 0, str []]) rfl (by kernel_rfl)) ?_
 refine jF rfl (jR (ps := [(0, .agg #[iv 1, iv 1, str [120], str [], iv 0, iv 0, str []])]) (cur := #[iv 1, iv 1, str [120], str [], iv 0, iv 0, str []]) kh ks Tryz.zeroValue45 rfl (by kernel_rfl) (by decide) (by decide)) ?_
 rintro _ _ ⟨a_32, rfl, rfl⟩
 refine jA [] (I_serialTouch l_29a l_29c l_29 a_32 1 ([(⟨1, (⟨1, [120], [], 0, 0, []⟩ : CL)⟩ : SP)] : List SP) (by have hl_ := (f_30).1; omega) (by (try simp only [List.length_take, List.length_cons, List.length_nil]); omega) f_30 (by omega) (okSteps.one ⟨by (try dsimp only); omega, by (try dsimp only); omega, by (try dsimp only); omega, by simp, by simp, by simp⟩ (by decide)) (grow 3) (run_grow f_30.1 _) (fun j hj => Nat.le_trans (grow_le _ (Nat.le_trans hj (show _ ≤ 1 by exact Nat.le_refl 1))) (by decide)) (by decide)) (hpre := fun w hw => ⟨hw.see (i := 1) rfl, hw.see (i := 0) rfl, hw.hex hlow hpre.2⟩) ?_
 rintro _ _ ⟨x_33, m_34, o_35, e_36, k_37, rfl, rfl⟩
 have hk5_m_34 : m_34.r.length ≤ 1000000000 ∧ m_34.w.length ≤ 1000000000 := ⟨Nat.le_trans (k_37).2.1 (by decide), Nat.le_trans (k_37).2.2.1 (by decide)⟩
 refine jG [.slice none 0 0, .slice none 0 0] fun b_38 => ?_
 refine jD 0 [.slice x_33.a1 m_34.r.length x_33.c1, .slice x_33.a2 m_34.w.length x_33.c2] ?_
 refine go ?_
 obtain ⟨hG1, hG2⟩ := touch_grows e_20 e_26
 have hB := boot_touch (m := m_34) (by rw [e_31]; exact e_36)
 have hf1 := foldSpan_len m_18.r m_24.r
 have hf2 := foldSpan_len m_18.w m_24.w
 refine jH [0, 4, 6] 11 ?_
 refine go ?_
 refine jB (i := 2) ?_
 refine jI [] (I_joinTouch x_23.a1 x_23.c1 m_24.r x_23.a2 x_23.c2 m_24.w x_17.a1 x_17.c1 m_18.r x_17.a2 x_17.c2 m_18.w (by omega) (by omega) (by omega) (by omega)) (hpre := fun w hw => ⟨hw.see (i := 6) rfl, hw.see (i := 7) rfl, hw.see (i := 9) rfl, hw.see (i := 10) rfl⟩) ?_
 rintro _ _ ⟨a_47, c_48, a_49, c_50, rfl, rfl⟩
 refine jB (i := 4) ?_
 refine jI [] (C_sameTouch a_47 a_49 x_23.a1 x_23.a2 c_48 c_50 x_23.c1 x_23.c2 (m_18.r.foldl addSpan m_24.r) (m_18.w.foldl addSpan m_24.w) m_24.r m_24.w (by omega) (by omega)) (hpre := fun w hw => ⟨hw.see (i := 0) rfl, hw.see (i := 1) rfl, hw.see (i := 8) rfl, hw.see (i := 9) rfl⟩) ?_
 rintro _ _ ⟨rfl, rfl⟩
 refine go ?_
 refine jq 6 rfl (by kernel_rfl) (NP.th NP.body) (by kernel_rfl) (by kernel_rfl) rfl rfl rfl (cB (by rw [hG1, hG2]; simp)) (PO.fieldAddr fo32_1 rfl) <| kG 7 rfl (by kernel_rfl) (NP.th NP.body) (by kernel_rfl) (by kernel_rfl) (by kernel_rfl) rfl rfl rfl (cB (by rw [hG1, hG2]; simp)) (LO.load1 0 (v := .slice x_33.a2 m_34.w.length x_33.c2) rfl rfl Tryz.isAgg30 rfl) <| jq 8 rfl (by kernel_rfl) (NP.th NP.body) (by kernel_rfl) (by kernel_rfl) rfl rfl rfl (cB (by rw [hG1, hG2]; simp)) (PO.lenV kI rfl) <| jq 9 rfl (by kernel_rfl) (NP.th NP.body) (by kernel_rfl) (by kernel_rfl) rfl rfl rfl (cB (by rw [hG1, hG2]; simp)) (PO.eqlI rfl rfl) <| jd 10 rfl (PO.pickT (v := .bool (decide (((m_34.w.length : Nat) : Int) = 3))) (cB (by rw [hG1, hG2]; simp)) rfl) ?_
 refine go ?_
 have h_51 : ((m_34.w.length : Nat) : Int) = 3 := (by omega)
 first | refine kA 2 (v := .bool true) (cB (dT h_51)) ?_ | refine jv 2 (v := .bool true) (cB (dT h_51)) ?_ | refine kB 2 (v := .bool true) (cB (dT h_51)) ?_ | refine kC 2 (v := .bool true) (cB (dT h_51)) ?_
 exact jJ [] ⟨rfl, rfl⟩
end Go.Proofs.YthlfmbbaomdciaaGreatDoor
