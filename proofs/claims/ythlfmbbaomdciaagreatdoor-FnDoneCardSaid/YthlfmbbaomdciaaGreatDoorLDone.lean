/-
Texts of the walk, joined: what each one proves stands at its theorems.
-/
import Derived.Test.YthlfmbbaomdciaaGreatDoorXDoneS74DONE
set_option linter.unusedSimpArgs false
set_option linter.unusedVariables false
set_option linter.unnecessarySimpa false
set_option maxHeartbeats 4000000
set_option maxRecDepth 4000
namespace Go.Proofs.YthlfmbbaomdciaaGreatDoor
open Go Go.RowKit
attribute [local irreducible] JL JC JQ JO LO PO JA JX Ct
theorem neqA0 {n : Nat} {e : Env} {d : Option Tmp} {ty : TypeId} {pos : String} {aft : Array Edge} {gd : Option (Nat × Bool)} {x y : Operand} {u : TypeId} (a : AN) (hx : rd n e x = .agg #[.int .i64 a.code, .int .i64 a.n, str a.text]) (hy : rd n e y = .agg #[.int .i64 a.code, .int .i64 a.n, str a.text]) : PO Tryz.prog n e ⟨d, .binOp .neq 39 x y u, ty, pos, aft, gd⟩ (.bool false) := by have h := PO.neqA (d := d) (ty := ty) (pos := pos) (aft := aft) (gd := gd) (u := u) a a hx hy; simpa using h
theorem St.pkA {w0 w : World} {D : List Nat} {L : List Res} (is : List Nat) (A : List Res) (hw : St w0 D L w) (h : pickA is L = A := by kernel_rfl) (hok : okP is L = true := by kernel_rfl) : St w0 D A w := by
 subst h
 obtain ⟨F, hF⟩ := pickA_perm is L hok
 exact (hw.perm hF.symm).sub (List.sublist_append_left _ _)
set_option maxRecDepth 8000 in
theorem L_Done (pa : Option Addr) (pc : Nat) (p : Str) :
   Ct Tryz.prog 6 [.slice pa p.length pc] [] (fun w => Sees w (.slice pa p.length pc) 1 p.length (p.map encB) ∧ HexOk w) (fun v A' => v = .bool true ∧ A' = []) := by
 refine Ct.introL Tryz.func6 rfl Tryz.ntmps6 (lb rfl) fun w0 hpre hlow => ?_
 have hs_pa : Sees w0 _ _ _ _ := hpre.1
 refine go ?_
 refine jN [] (N_big pa pc p) ?_
 refine go ?_
 by_cases h_1 : 1048576 < ((p.length : Nat) : Int)
 · refine go ?_
   exact jJ [] ⟨rfl, rfl⟩
 refine go ?_
 refine jA [] (D_dDoCall pa pc p (by omega)) (hpre := fun w hw => hw.seeOut_ hs_pa nM) ?_
 rintro _ _ ⟨x_2, m_3, n_5, C_7, k_4, f_6, f_8, rfl, rfl⟩
 obtain ⟨f_81, f_82, f_83, f_84, f_85, f_86⟩ := id f_8
 refine go ?_
 refine jG zC fun b_10 => ?_
 refine jG [iv 0, str [], str [], iv 0, iv 0, str []] fun b_11 => ?_
 refine jD 1 (mc x_2 m_3) ?_
 refine go ?_
 refine jD 0 [iv C_7.kind, str C_7.name, str C_7.to_, iv C_7.a, iv C_7.b, str C_7.text] ?_
 refine go ?_
 refine jA [] (P_do x_2 m_3 k_4 (by omega) (by omega) n_5 C_7 (by omega) f_8) (hpre := fun w hw => ⟨⟨hw.see (i := 2) rfl, hw.see (i := 3) rfl, hw.see (i := 4) rfl⟩, hw.hex hlow hpre.2⟩) ?_
 rintro _ _ ⟨x_14, m_15, A_16, e_12, k_13, f_17, rfl, rfl⟩
 refine go ?_
 refine jG zC fun b_18 => ?_
 refine jG [iv 0, iv 0, str []] fun b_19 => ?_
 refine jD 1 (mc x_14 m_15) ?_
 refine jD 0 [iv A_16.code, iv A_16.n, str A_16.text] ?_
 refine go ?_
 refine jA [] (Q_do x_2 m_3 k_4 (by omega) (by omega) n_5 C_7 (by omega) f_8) (hpre := fun w hw => ⟨hw.see (i := 7) rfl, hw.see (i := 8) rfl, hw.see (i := 9) rfl⟩) ?_
 rintro _ _ ⟨x_22, m_23, A_24, e_20, k_21, f_25, rfl, rfl⟩
 have hqe_20 := e_12.symm.trans e_20
 simp only [Prod.mk.injEq] at hqe_20
 obtain ⟨rfl, rfl⟩ := hqe_20
 refine go ?_
 refine jG zC fun b_26 => ?_
 refine jG [iv 0, iv 0, str []] fun b_27 => ?_
 refine jD 1 (mc x_22 m_15) ?_
 refine jD 0 [iv A_16.code, iv A_16.n, str A_16.text] ?_
 refine jb ?_
 refine jw (L' := [bk b_27 39 [iv A_16.code, iv A_16.n, str A_16.text], mb b_26 x_22 m_15, bk b_19 39 [iv A_16.code, iv A_16.n, str A_16.text], mb b_18 x_14 m_15, rC x_22.a0 x_22.c0 m_15.s, rS x_22.a1 x_22.c1 m_15.r, rS x_22.a2 x_22.c2 m_15.w, rC x_14.a0 x_14.c0 m_15.s, rS x_14.a1 x_14.c1 m_15.r, rS x_14.a2 x_14.c2 m_15.w]) (fun w hw => hw.pkA [0, 0, 3, 3, 0, 0, 0, 0, 0, 0] _) ?_
 refine go ?_
 refine jA [] (D_dCallOn pa pc p (by omega)) (hpre := fun w hw => hw.seeOut_ hs_pa nM) ?_
 rintro _ _ ⟨l_28a, l_28c, l_28, n_30, C_32, f_29, f_31, f_33, rfl, rfl⟩
 have hO1_l_28 := f_29.1
 obtain ⟨f_331, f_332, f_333, f_334, f_335, f_336⟩ := id f_33
 refine go ?_
 refine jG [iv 0, str [], str [], iv 0, iv 0, str []] fun b_35 => ?_
 refine go ?_
 refine jD 0 [iv C_32.kind, str C_32.name, str C_32.to_, iv C_32.a, iv C_32.b, str C_32.text] ?_
 refine go ?_
 refine jA [] (I_callOn l_28a l_28c l_28 n_30 C_32 (by have hl_ := (f_29).1; omega) (by omega) f_33 f_29 (by omega)) (hpre := fun w hw => ⟨hw.see (i := 1) rfl, hw.hex hlow hpre.2⟩) ?_
 rintro _ _ ⟨x_36, m_37, A_38, e_39, k_40, f_41, rfl, rfl⟩
 refine go ?_
 refine jG [iv 0, iv 0, str []] fun b_42 => ?_
 refine jG [.slice none 0 0, .slice none 0 0] fun b_43 => ?_
 refine go ?_
 refine jD 1 [iv A_38.code, iv A_38.n, str A_38.text] ?_
 refine jD 0 [.slice x_36.a1 m_37.r.length x_36.c1, .slice x_36.a2 m_37.w.length x_36.c2] ?_
 refine go ?_
 refine jA [] (D_callOn l_28a l_28c l_28 n_30 C_32 (by have hl_ := (f_29).1; omega) (by omega) f_33 f_29 (by omega)) (hpre := fun w hw => hw.see (i := 6) rfl) ?_
 rintro _ _ ⟨x_44, m_45, A_46, e_47, k_48, f_49, rfl, rfl⟩
 have hqe_47 := e_39.symm.trans e_47
 simp only [Prod.mk.injEq] at hqe_47
 obtain ⟨rfl, rfl⟩ := hqe_47
 refine go ?_
 refine jG [iv 0, iv 0, str []] fun b_50 => ?_
 refine jG [.slice none 0 0, .slice none 0 0] fun b_51 => ?_
 refine go ?_
 refine jD 1 [iv A_38.code, iv A_38.n, str A_38.text] ?_
 refine jD 0 [.slice x_44.a1 m_37.r.length x_44.c1, .slice x_44.a2 m_37.w.length x_44.c2] ?_
 refine jb ?_
 refine jw (L' := [bk b_51 32 [.slice x_44.a1 m_37.r.length x_44.c1, .slice x_44.a2 m_37.w.length x_44.c2], bk b_50 39 [iv A_38.code, iv A_38.n, str A_38.text], bk b_43 32 [.slice x_36.a1 m_37.r.length x_36.c1, .slice x_36.a2 m_37.w.length x_36.c2], bk b_42 39 [iv A_38.code, iv A_38.n, str A_38.text], bk b_27 39 [iv A_16.code, iv A_16.n, str A_16.text], mb b_26 x_22 m_15, bk b_19 39 [iv A_16.code, iv A_16.n, str A_16.text], mb b_18 x_14 m_15, rC x_44.a0 x_44.c0 m_37.s, rS x_44.a1 x_44.c1 m_37.r, rS x_44.a2 x_44.c2 m_37.w, rC x_36.a0 x_36.c0 m_37.s, rS x_36.a1 x_36.c1 m_37.r, rS x_36.a2 x_36.c2 m_37.w, rC x_22.a0 x_22.c0 m_15.s, rS x_22.a1 x_22.c1 m_15.r, rS x_22.a2 x_22.c2 m_15.w, rC x_14.a0 x_14.c0 m_15.s, rS x_14.a1 x_14.c1 m_15.r, rS x_14.a2 x_14.c2 m_15.w]) (fun w hw => hw.pkA [0, 0, 3, 3, 8, 8, 8, 8, 0, 0, 0, 0, 0, 0, 2, 2, 2, 2, 2, 2] _) ?_
 refine go ?_
 refine jK (neqA0 A_16 rfl rfl) ?_
 refine go ?_
 refine jW rfl rfl rfl (cB rfl) (jO [] Tryz.call38 rfl (N_sameMach x_14 x_22 m_15 k_13 (by omega) (by omega)) rfl (fun w hw => ⟨⟨hw.see (i := 17) rfl, hw.see (i := 18) rfl, hw.see (i := 19) rfl⟩, ⟨hw.see (i := 14) rfl, hw.see (i := 15) rfl, hw.see (i := 16) rfl⟩⟩)) ?_
 rintro _ _ ⟨_, ⟨rfl, rfl⟩, rfl⟩
 refine go ?_
 refine jW rfl rfl rfl (cB rfl) (jm (LO.pure (neqA0 A_38 rfl rfl))) ?_
 rintro _ _ ⟨rfl, rfl⟩
 refine go ?_
 refine jW rfl rfl rfl (cB rfl) (jO [] Tryz.call18 rfl (C_sameCells x_36.a0 x_44.a0 x_36.c0 x_44.c0 m_37.s m_37.s (by have hl_ := k_40.1; omega)) rfl (fun w hw => ⟨hw.see (i := 11) rfl, hw.see (i := 8) rfl⟩)) ?_
 rintro _ _ ⟨_, ⟨rfl, rfl⟩, rfl⟩
 first | refine kA 89 (v := .bool true) (cB (dT rfl)) ?_ | refine jv 89 (v := .bool true) (cB (dT rfl)) ?_ | refine kB 89 (v := .bool true) (cB (dT rfl)) ?_ | refine kC 89 (v := .bool true) (cB (dT rfl)) ?_
 refine go ?_
 refine jW rfl rfl rfl (cB rfl) (jO [] Tryz.call26 rfl (C_sameTouch x_36.a1 x_36.a2 x_44.a1 x_44.a2 x_36.c1 x_36.c2 x_44.c1 x_44.c2 m_37.r m_37.w m_37.r m_37.w (by have h_ := (k_40).2.1; omega) (by have h_ := (k_40).2.2.1; omega)) rfl (fun w hw => ⟨hw.see (i := 12) rfl, hw.see (i := 13) rfl, hw.see (i := 9) rfl, hw.see (i := 10) rfl⟩)) ?_
 rintro _ _ ⟨_, ⟨rfl, rfl⟩, rfl⟩
 first | refine kA 95 (v := .bool true) (cB (by simp)) ?_ | refine jv 95 (v := .bool true) (cB (by simp)) ?_ | refine kB 95 (v := .bool true) (cB (by simp)) ?_ | refine kC 95 (v := .bool true) (cB (by simp)) ?_
 refine go ?_
 refine jW rfl rfl rfl (cB rfl) (jO [] Tryz.call39 rfl (I_bootS) rfl (fun _ _ => trivial)) ?_
 rintro _ _ ⟨_, ⟨hb_52, a_53, c_54, rfl, rfl⟩, rfl⟩
 refine jW rfl rfl rfl (cB rfl) (jO [] Tryz.call25 rfl (D_boot) rfl (fun _ _ => trivial)) ?_
 rintro _ _ ⟨_, ⟨l_55a, l_55c, l_55, e_57, f_56, rfl, rfl⟩, rfl⟩
 refine jW rfl rfl rfl (cB rfl) (jO [] Tryz.call18 rfl (C_sameCells a_53 l_55a c_54 l_55c bootS l_55 (by omega)) rfl (fun w hw => ⟨hw.see (i := 1) rfl, hw.see (i := 0) rfl⟩)) ?_
 rintro _ _ ⟨_, ⟨rfl, rfl⟩, rfl⟩
 refine gQ ?_
 refine jb ?_
 refine jw (L' := []) (fun w hw => hw.pkA [] _) ?_
 refine go ?_
 have h_58 : bootS = l_55 := e_57
 refine go ?_
 refine jA [] (D_dAnswerText pa pc p (by omega)) (hpre := fun w hw => hw.seeOut_ hs_pa nM) ?_
 rintro _ _ ⟨A_59, f_60, rfl, rfl⟩
 refine jG [iv 0, iv 0, str []] fun b_62 => ?_
 refine jD 0 [iv A_59.code, iv A_59.n, str A_59.text] ?_
 refine go ?_
 refine jA [] (D_dSameAnswer pa pc p (by omega)) (hpre := fun w hw => hw.seeOut_ hs_pa nM) ?_
 rintro _ _ ⟨A_63, A_65, f_64, f_66, rfl, rfl⟩
 refine go ?_
 refine jG [iv 0, iv 0, str []] fun b_68 => ?_
 refine jG [iv 0, iv 0, str []] fun b_69 => ?_
 refine jD 1 [iv A_63.code, iv A_63.n, str A_63.text] ?_
 refine jD 0 [iv A_65.code, iv A_65.n, str A_65.text] ?_
 refine go ?_
 refine jA [] (I_bootS) ?_
 rintro _ _ ⟨hb_70, a_71, c_72, rfl, rfl⟩
 refine jK (je (ps := [(0, iv 9)]) (cs := [iv 9, str [], str [], iv 0, iv 0, str []]) rfl (by kernel_rfl)) ?_
 refine jA [] (I_callOn a_71 c_72 bootS 9 (⟨9, [], [], 0, 0, []⟩ : CL) (by have hl_ := (bootS_ok).1; omega) (by omega) ⟨by (try dsimp only); omega, by (try dsimp only); omega, by (try dsimp only); omega, (show List.length ([] : Str) ≤ 1048576 by decide), (show List.length ([] : Str) ≤ 1048576 by decide), (show List.length ([] : Str) ≤ 1048576 by decide)⟩ bootS_ok (by omega)) (hpre := fun w hw => ⟨hw.see (i := 0) rfl, hw.hex hlow hpre.2⟩) ?_
 rintro _ _ ⟨x_73, m_74, A_75, e_76, k_77, f_78, rfl, rfl⟩
 refine go ?_
 refine jG [iv 0, iv 0, str []] fun b_79 => ?_
 refine jG [.slice none 0 0, .slice none 0 0] fun b_80 => ?_
 refine go ?_
 refine jD 1 [iv A_75.code, iv A_75.n, str A_75.text] ?_
 refine jD 0 [.slice x_73.a1 m_74.r.length x_73.c1, .slice x_73.a2 m_74.w.length x_73.c2] ?_
 refine jb ?_
 refine jw (L' := [bk b_79 39 [iv A_75.code, iv A_75.n, str A_75.text], bk b_69 39 [iv A_65.code, iv A_65.n, str A_65.text], bk b_68 39 [iv A_63.code, iv A_63.n, str A_63.text], bk b_62 39 [iv A_59.code, iv A_59.n, str A_59.text]]) (fun w hw => hw.pkA [1, 5, 5, 5] _) ?_
 refine go ?_
 refine jA [] (I_bootS) ?_
 rintro _ _ ⟨hb_81, a_82, c_83, rfl, rfl⟩
 refine jK (je (ps := [(0, iv 9)]) (cs := [iv 9, str [], str [], iv 0, iv 0, str []]) rfl (by kernel_rfl)) ?_
 refine jA [] (I_callOn a_82 c_83 bootS 1 (⟨9, [], [], 0, 0, []⟩ : CL) (by have hl_ := (bootS_ok).1; omega) (by omega) ⟨by (try dsimp only); omega, by (try dsimp only); omega, by (try dsimp only); omega, (show List.length ([] : Str) ≤ 1048576 by decide), (show List.length ([] : Str) ≤ 1048576 by decide), (show List.length ([] : Str) ≤ 1048576 by decide)⟩ bootS_ok (by omega)) (hpre := fun w hw => ⟨hw.see (i := 0) rfl, hw.hex hlow hpre.2⟩) ?_
 rintro _ _ ⟨x_84, m_85, A_86, e_87, k_88, f_89, rfl, rfl⟩
 refine go ?_
 refine jG [iv 0, iv 0, str []] fun b_90 => ?_
 refine jG [.slice none 0 0, .slice none 0 0] fun b_91 => ?_
 refine go ?_
 refine jD 1 [iv A_86.code, iv A_86.n, str A_86.text] ?_
 refine jD 0 [.slice x_84.a1 m_85.r.length x_84.c1, .slice x_84.a2 m_85.w.length x_84.c2] ?_
 refine jb ?_
 refine jw (L' := [bk b_90 39 [iv A_86.code, iv A_86.n, str A_86.text], bk b_79 39 [iv A_75.code, iv A_75.n, str A_75.text], bk b_69 39 [iv A_65.code, iv A_65.n, str A_65.text], bk b_68 39 [iv A_63.code, iv A_63.n, str A_63.text], bk b_62 39 [iv A_59.code, iv A_59.n, str A_59.text]]) (fun w hw => hw.pkA [1, 5, 5, 5, 5] _) ?_
 refine go ?_
 have hnone := boot_none e_76
 have hone := boot_one e_87
 refine jH [0, 0, 0, 0, 0] 29 ?_
 refine go ?_
 refine jB (i := 1) ?_
 refine jI [] (Y_iAnsText A_59 (by (try dsimp only); (try simp only [List.length_nil, List.length_cons]); omega)) ?_
 rintro _ _ ⟨rfl, rfl⟩
 refine jB (i := 3) ?_
 refine jI [] (Y_sAnsText A_59 (by (try dsimp only); (try simp only [List.length_nil, List.length_cons]); omega)) ?_
 rintro _ _ ⟨rfl, rfl⟩
 refine go ?_
 refine jq 11 rfl (by kernel_rfl) (NP.th NP.body) (by kernel_rfl) (by kernel_rfl) rfl rfl rfl (cB (dT rfl)) (PO.eqlA A_63 A_65 rfl rfl) ?_
 refine jB (i := 8) ?_
 refine jn rfl rfl rfl rfl (cB (dT rfl)) (jO [] Tryz.call44 rfl (I_sameAnswer A_63 A_65) rfl (fun _ _ => trivial)) ?_
 rintro _ _ ⟨_, ⟨rfl, rfl⟩, rfl⟩
 refine ⟨all_go, ?_⟩
 refine jq 12 rfl (by kernel_rfl) (NP.th NP.body) (by kernel_rfl) (by kernel_rfl) rfl rfl rfl (cB (dT rfl)) (PO.eqlB Tryz.underlying4 rfl rfl) ?_
 refine go ?_
 have h_92 : A_75.code = 2 := hnone
 refine go ?_
 refine jq 21 rfl (by kernel_rfl) (NP.th NP.body) (by kernel_rfl) (by kernel_rfl) rfl rfl rfl (cB (dT h_92)) (je (ps := [(1, iv 1)]) (cs := [iv 0, iv 1, str []]) rfl (by kernel_rfl)) <| jq 22 rfl (by kernel_rfl) (NP.th NP.body) (by kernel_rfl) (by kernel_rfl) rfl rfl rfl (cB (dT h_92)) (PO.eqlA A_86 (⟨0, 1, []⟩ : AN) rfl rfl) ?_
 refine go ?_
 refine jd 24 rfl (PO.move (v := .bool (decide (A_86 = (⟨0, 1, []⟩ : AN)))) rfl) ?_
 have h_93 : A_86 = (⟨0, 1, []⟩ : AN) := hone
 refine jq 25 rfl (by kernel_rfl) (NP.th NP.body) (by kernel_rfl) (by kernel_rfl) rfl rfl rfl (cB (dT h_93)) (je (ps := [(0, iv 2), (2, str [97])]) (cs := [iv 2, iv 0, str [97]]) rfl (by kernel_rfl)) ?_
 refine jB (i := 26) ?_
 refine jn rfl rfl rfl rfl (cB (dT h_93)) (jO [] Tryz.call42 rfl (Y_iAnsText (⟨2, 0, [97]⟩ : AN) (by (try dsimp only); (try simp only [List.length_nil, List.length_cons]); omega)) rfl (fun _ _ => trivial)) ?_
 rintro _ _ ⟨_, ⟨rfl, rfl⟩, rfl⟩
 refine ⟨all_go, ?_⟩
 refine jq 27 rfl (by kernel_rfl) (NP.th NP.body) (by kernel_rfl) (by kernel_rfl) rfl rfl rfl (cB (dT h_93)) (PO.eqlS rfl rfl) <| jd 28 rfl (PO.pickT (v := .bool (decide ((ansText (⟨2, 0, [97]⟩ : AN)) = [50, 32, 48, 32, 54, 49]))) (cB (dT h_93)) rfl) <| jd 29 rfl (PO.assign (v := .bool (decide ((ansText (⟨2, 0, [97]⟩ : AN)) = [50, 32, 48, 32, 54, 49]))) rfl) <| JA.done (by kernel_rfl) ?_
 refine jw (L' := []) (fun w hw => hw.pkA [] _) ?_
 refine go ?_
 have h_94 : (ansText (⟨2, 0, [97]⟩ : AN)) = [50, 32, 48, 32, 54, 49] := ansText_two
 first | refine kA 2 (v := .bool true) (cB (dT h_94)) ?_ | refine jv 2 (v := .bool true) (cB (dT h_94)) ?_ | refine kB 2 (v := .bool true) (cB (dT h_94)) ?_ | refine kC 2 (v := .bool true) (cB (dT h_94)) ?_
 exact jJ [] ⟨rfl, rfl⟩
end Go.Proofs.YthlfmbbaomdciaaGreatDoor
