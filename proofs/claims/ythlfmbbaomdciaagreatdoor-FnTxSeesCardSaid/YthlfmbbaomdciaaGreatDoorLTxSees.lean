/-
Texts of the walk, joined: what each one proves stands at its theorems.
-/
import Derived.Test.YthlfmbbaomdciaaGreatDoorXTxSeesS81SEES
set_option linter.unusedSimpArgs false
set_option linter.unusedVariables false
set_option linter.unnecessarySimpa false
set_option maxHeartbeats 40000000
set_option maxRecDepth 4000
namespace Go.Proofs.YthlfmbbaomdciaaGreatDoor
open Go Go.RowKit
theorem JC.nz {P : Program} {Q : Exit → Act → World → Prop} {n : Nat} {w0 : World} {D : List Nat} {L : List Res} {c : Code} {e : Env} (l : List (Nat × Value)) (L' : List Res) (h : ∀ e', JC P Q n w0 D L' c (updL l e')) (hl : EL e l := by exact EL.go) (hL : L = L' := by kernel_rfl) : JC P Q n w0 D L c e := by
 obtain ⟨e', rfl⟩ := hl
 subst hL
 exact h e'
theorem boot_sees {n one two : TD} {a b : AN} (h0 : n = TD.new 1 1 1) (e1 : TD.askV (viewA bootS n) n ⟨1, [120], [], 0, 0, []⟩ = (one, a)) (e2 : TD.askV (viewA bootS one) one ⟨5, [], [], 0, 0, []⟩ = (two, b)) :
   rightA bootS two = true ∧ b.text = [120, 32] ∧ (keysUnder (laidW bootS (viewA bootS two) two.wr) [110, 47]).length = 1 := by
 subst h0
 obtain rfl : one = (TD.askV (viewA bootS (TD.new 1 1 1)) (TD.new 1 1 1) ⟨1, [120], [], 0, 0, []⟩).1 := by rw [e1]
 obtain rfl : two = (TD.askV (viewA bootS (TD.askV (viewA bootS (TD.new 1 1 1)) (TD.new 1 1 1) ⟨1, [120], [], 0, 0, []⟩).1) (TD.askV (viewA bootS (TD.new 1 1 1)) (TD.new 1 1 1) ⟨1, [120], [], 0, 0, []⟩).1 ⟨5, [], [], 0, 0, []⟩).1 := by rw [e2]
 obtain rfl : b = (TD.askV (viewA bootS (TD.askV (viewA bootS (TD.new 1 1 1)) (TD.new 1 1 1) ⟨1, [120], [], 0, 0, []⟩).1) (TD.askV (viewA bootS (TD.new 1 1 1)) (TD.new 1 1 1) ⟨1, [120], [], 0, 0, []⟩).1 ⟨5, [], [], 0, 0, []⟩).2 := by rw [e2]
 decide +kernel
theorem boot_names : (keysUnder bootS [110, 47]).length = 0 := by decide +kernel
theorem keys_viewA {n : Nat} {s : List Cell} (h : okC' n 1048576 s) (t : TD) : Pr.okKeys (viewA s t) := by rw [view_eq]; exact keys_viewL h t
attribute [local irreducible] JL JC JQ JO LO PO JA JX Ct

set_option maxRecDepth 8000 in
theorem L_TxSees (pa : Option Addr) (pc : Nat) (p : Str) :
   Ct Tryz.prog 7 [.slice pa p.length pc] [] (fun w => Sees w (.slice pa p.length pc) 1 p.length (p.map encB) ∧ HexOk w) (fun v A' => v = .bool true ∧ A' = []) := by
 refine Ct.introL Tryz.func7 rfl Tryz.ntmps7 (lb rfl) fun w0 hpre hlow => ?_
 have hs_pa : Sees w0 _ _ _ _ := hpre.1
 refine go ?_
 refine jN [] (N_big pa pc p) ?_
 refine go ?_
 by_cases h_1 : 1048576 < ((p.length : Nat) : Int)
 · refine go ?_
   exact jJ [] ⟨rfl, rfl⟩
 refine go ?_
 refine jA [] (D_dTxAsk pa pc p (by omega)) (hpre := fun w hw => hw.seeOut_ hs_pa nM) ?_
 rintro _ _ ⟨a_2, c_3, l_4, z_5, C_6, hO_7, hd_8, hC_9, rfl, rfl⟩
 refine go ?_
 refine jG xzc fun b_10 => ?_
 refine jG [iv 0, str [], str [], iv 0, iv 0, str []] fun b_11 => ?_
 refine go ?_
 refine jD 1 (xc z_5) ?_
 refine jD 0 [iv C_6.kind, str C_6.name, str C_6.to_, iv C_6.a, iv C_6.b, str C_6.text] ?_
 refine go ?_
 have hd_8n := hd_8.n
 have hd_8r := hd_8.r
 have hd_8w := hd_8.w
 have hO_ := (hO_7).1
 have hsl_ : (stepsOf z_5.t).length = z_5.t.calls.length := List.length_map _
 refine go ?_
 refine jA [] (Y_iTxAsk z_5 (hd_8.lim (by decide) (by decide)) a_2 c_3 l_4 10938 hO_7 (by omega) (hd_8.okT (by decide)) (askG (fun h_ => growH (by omega) (by omega))) (askT (fun h_ => growTH (by omega) (by omega))) 20000000 (askB (fun h_ => growH (by omega) (by omega))) C_6 hC_9) (hpre := fun w hw => ⟨hw.see (i := 2) rfl, hw.seeRows 3 rfl, hw.hex hlow hpre.2⟩) ?_
 rintro _ _ ⟨z_12, A_13, e_14, ha_15, hb_16, rfl, rfl⟩
 refine go ?_
 refine jG xzc fun b_17 => ?_
 refine jG [iv 0, iv 0, str []] fun b_18 => ?_
 refine jD 1 (xc z_12) ?_
 refine jD 0 [iv A_13.code, iv A_13.n, str A_13.text] ?_
 refine go ?_
 refine jA [] (Y_sTxAsk z_5 (hd_8.lim (by decide) (by decide)) a_2 c_3 l_4 10938 hO_7 (by omega) (hd_8.okT (by decide)) (askG (fun h_ => growH (by omega) (by omega))) (askT (fun h_ => growTH (by omega) (by omega))) 20000000 (askB (fun h_ => growH (by omega) (by omega))) C_6 hC_9) (hpre := fun w hw => ⟨hw.see (i := 5) rfl, hw.seeRows 6 rfl⟩) ?_
 rintro _ _ ⟨z_19, A_20, e_21, ha_22, hb_23, rfl, rfl⟩
 refine go ?_
 refine jG xzc fun b_24 => ?_
 refine jG [iv 0, iv 0, str []] fun b_25 => ?_
 refine jD 1 (xc z_19) ?_
 refine jD 0 [iv A_20.code, iv A_20.n, str A_20.text] ?_
 refine jb <| jT <| jc ?_
 refine JC.nz [(0, .slice pa p.length pc), (2, .bool false), (3, .slice a_2 l_4.length c_3), (4, .pointer (some ⟨b_10, 0, none⟩)), (6, .pointer (some ⟨b_17, 0, none⟩)), (7, .pointer (some ⟨b_18, 0, none⟩)), (8, .pointer (some ⟨b_24, 0, none⟩)), (9, .pointer (some ⟨b_25, 0, none⟩))] [bk b_25 39 [iv A_20.code, iv A_20.n, str A_20.text], bk b_24 35 (xc z_19), Res.rows (rdsX z_19), bk b_18 39 [iv A_13.code, iv A_13.n, str A_13.text], bk b_17 35 (xc z_12), Res.rows (rdsX z_12), bk b_11 43 [iv C_6.kind, str C_6.name, str C_6.to_, iv C_6.a, iv C_6.b, str C_6.text], bk b_10 35 (xc z_5), rC a_2 c_3 l_4, Res.rows (rdsX z_5)] (fun _ => ?_) 
 refine go ?_
 have heq := e_14.symm.trans ((by rw [view_eq] : _ = _).trans e_21)
 simp only [Prod.mk.injEq] at heq
 have hY := hd_8.ask hC_9 (keys_viewA hO_7 _) e_14 hb_16
 have hW := hd_8.ask hC_9 (keys_viewL hO_7 _) e_21 hb_23
 refine jH [0, 0, 1, 1, 3] 1000 ?_
 refine go ?_
 refine jd 2 rfl (PO.neqA A_13 A_20 rfl rfl) ?_
 refine go ?_
 have h_26 : A_13 = A_20 := heq.2
 refine go ?_
 refine jB (i := 6) ?_
 refine jn rfl rfl rfl rfl (cB (cN (dT h_26))) (jO [] Tryz.call21 rfl (Y_sameTx z_12 z_19 ((hY.lim (by decide) (by decide)).mono (show 500000000 ≤ 1000000000 by decide))) rfl (fun w hw => ⟨hw.seeRows 5 rfl, hw.seeRows 2 rfl⟩)) ?_
 rintro _ _ ⟨_, ⟨rfl, rfl⟩, rfl⟩
 refine ⟨all_go, ?_⟩
 refine go ?_
 have h_27 : z_12.t = z_19.t := heq.1
 refine go ?_
 refine jB (i := 11) ?_
 refine jn rfl rfl rfl rfl (cB (cN (dT h_27))) (jO [] Tryz.call48 rfl (Y_iTxSteps z_5 ((hd_8.lim (by decide) (by decide)).mono (show 500000000 ≤ 1000000000 by decide))) rfl (fun w hw => hw.seeRows 9 rfl)) ?_
 rintro _ _ ⟨_, ⟨a_32, c_33, rfl, rfl⟩, rfl⟩
 refine ⟨all_go, ?_⟩
 refine jB (i := 13) ?_
 refine jn rfl rfl rfl rfl (cB (cN (dT h_27))) (jO [] Tryz.call49 rfl (Y_sTxSteps z_5 ((hd_8.lim (by decide) (by decide)).mono (show 500000000 ≤ 1000000000 by decide))) rfl (fun w hw => hw.seeRows 10 rfl)) ?_
 rintro _ _ ⟨_, ⟨a_36, c_37, rfl, rfl⟩, rfl⟩
 refine ⟨all_go, ?_⟩
 refine jB (i := 14) ?_
 refine jn rfl rfl rfl rfl (cB (cN (dT h_27))) (jO [] Tryz.call47 rfl (Y_eqP5 a_32 a_36 c_33 c_37 (stepsOf z_5.t) (stepsOf z_5.t) (by omega)) rfl (fun w hw => ⟨hw.see (i := 1) rfl, hw.see (i := 0) rfl⟩)) ?_
 rintro _ _ ⟨_, ⟨rfl, rfl⟩, rfl⟩
 refine ⟨all_go, ?_⟩
 first | refine kA 58 (v := .bool true) (cB (dT rfl)) ?_ | refine jv 58 (v := .bool true) (cB (dT rfl)) ?_ | refine kB 58 (v := .bool true) (cB (dT rfl)) ?_ | refine kC 58 (v := .bool true) (cB (dT rfl)) ?_
 refine go ?_
 refine jB (i := 20) ?_
 refine jn rfl rfl rfl rfl (cB rfl) (jO [] Tryz.call19 rfl (Y_iTxView z_5 (hd_8.lim (by decide) (by decide)) a_2 c_3 l_4 10938 hO_7 (by omega) (hd_8.okT (by decide)) (Nat.le_trans (growH (by omega) (by omega)) (by decide)) (Nat.le_trans (growTH (by omega) (by omega)) (by decide))) rfl (fun w hw => ⟨hw.see (i := 10) rfl, hw.seeRows 11 rfl, hw.hex hlow hpre.2⟩)) ?_
 rintro _ _ ⟨_, ⟨a_53, c_54, v_55, e_56, hO_57, rfl, rfl⟩, rfl⟩
 refine ⟨all_go, ?_⟩
 have hO1_v_55 : v_55.length ≤ 28000000 := Nat.le_trans (hO_57).1 (Nat.le_trans (growH (by omega) (by omega)) (by decide))
 refine jB (i := 23) ?_
 refine jn rfl rfl rfl rfl (cB rfl) (jO [] Tryz.call16 rfl (Y_sTxView z_5 (hd_8.lim (by decide) (by decide)) a_2 c_3 l_4 10938 hO_7 (by omega) (hd_8.okT (by decide)) (Nat.le_trans (growH (by omega) (by omega)) (by decide)) (Nat.le_trans (growTH (by omega) (by omega)) (by decide))) rfl (fun w hw => ⟨hw.see (i := 11) rfl, hw.seeRows 12 rfl⟩)) ?_
 rintro _ _ ⟨_, ⟨a_63, c_64, v_65, e_66, hO_67, rfl, rfl⟩, rfl⟩
 refine ⟨all_go, ?_⟩
 have hO1_v_65 : v_65.length ≤ 28000000 := Nat.le_trans (hO_67).1 (Nat.le_trans (growH (by omega) (by omega)) (by decide))
 refine jB (i := 24) ?_
 refine jn rfl rfl rfl rfl (cB rfl) (jO [] Tryz.call18 rfl (C_sameCells a_53 a_63 c_54 c_64 v_55 v_65 (by omega)) rfl (fun w hw => ⟨hw.see (i := 1) rfl, hw.see (i := 0) rfl⟩)) ?_
 rintro _ _ ⟨_, ⟨rfl, rfl⟩, rfl⟩
 refine ⟨all_go, ?_⟩
 refine jq 25 rfl (by kernel_rfl) (NP.th (NP.th NP.body)) (by kernel_rfl) (by kernel_rfl) rfl rfl rfl (cB rfl) (PO.not rfl) <| jd 26 rfl (PO.pickF (v := .bool (!(decide (v_55 = v_65)))) (cB rfl) rfl) <| jd 27 rfl (PO.move (v := .bool (!(decide (v_55 = v_65)))) rfl) ?_
 have h_68 : v_55 = v_65 := (by rw [← e_56, ← e_66, view_eq])
 refine jq 28 rfl (by kernel_rfl) (NP.th (NP.th NP.body)) (by kernel_rfl) (by kernel_rfl) rfl rfl rfl (cB (cN (dT h_68))) (PO.move (v := .slice a_2 l_4.length c_3) rfl) <| kG 29 rfl (by kernel_rfl) (NP.th (NP.th NP.body)) (by kernel_rfl) (by kernel_rfl) (by kernel_rfl) rfl rfl rfl (cB (cN (dT h_68))) (jl 4 (vs := (xc z_5)) rfl rfl kT kQ rfl rfl) <| jq 31 rfl (by kernel_rfl) (NP.th (NP.th NP.body)) (by kernel_rfl) (by kernel_rfl) rfl rfl rfl (cB (cN (dT h_68))) (PO.move (v := .slice a_2 l_4.length c_3) rfl) <| kG 32 rfl (by kernel_rfl) (NP.th (NP.th NP.body)) (by kernel_rfl) (by kernel_rfl) (by kernel_rfl) rfl rfl rfl (cB (cN (dT h_68))) (jl 4 (vs := (xc z_5)) rfl rfl kT kQ rfl rfl) ?_
 refine jB (i := 30) ?_
 refine jn rfl rfl rfl rfl (cB (cN (dT h_68))) (jO [] Tryz.call50 rfl (Y_iRight z_5 (hd_8.lim (by decide) (by decide)) a_2 c_3 l_4 10938 hO_7 (by omega) (hd_8.okT (by decide)) (Nat.le_trans (growH (by omega) (by omega)) (by decide)) (Nat.le_trans (growTH (by omega) (by omega)) (by decide))) rfl (fun w hw => ⟨hw.see (i := 12) rfl, hw.seeRows 13 rfl, hw.hex hlow hpre.2⟩)) ?_
 rintro _ _ ⟨_, ⟨rfl, rfl⟩, rfl⟩
 refine ⟨all_go, ?_⟩
 refine jB (i := 33) ?_
 refine jn rfl rfl rfl rfl (cB (cN (dT h_68))) (jO [] Tryz.call51 rfl (Y_sRight z_5 (hd_8.lim (by decide) (by decide)) a_2 c_3 l_4 10938 hO_7 (by omega) (hd_8.okT (by decide)) (Nat.le_trans (growH (by omega) (by omega)) (by decide)) (Nat.le_trans (growTH (by omega) (by omega)) (by decide))) rfl (fun w hw => ⟨hw.see (i := 12) rfl, hw.seeRows 13 rfl⟩)) ?_
 rintro _ _ ⟨_, ⟨rfl, rfl⟩, rfl⟩
 refine ⟨all_go, ?_⟩
 refine jq 34 rfl (by kernel_rfl) (NP.th (NP.th NP.body)) (by kernel_rfl) (by kernel_rfl) rfl rfl rfl (cB (cN (dT h_68))) (PO.neqB Tryz.underlying4 rfl rfl) <| jd 35 rfl (PO.pickF (v := .bool (!(decide ((rightA l_4 z_5.t) = (rightL l_4 z_5.t))))) (cB (cN (dT h_68))) rfl) ?_
 refine go ?_
 first | refine JQ.pk [] ?_ | refine JC.pk [] ?_ | refine JL.pk [] ?_
 refine go ?_
 have h_69 : (rightA l_4 z_5.t) = (rightL l_4 z_5.t) := (right_eq _ _)
 refine JC.condF (cB (cN (dT h_69))) <| JC.skip <| jT ?_
 refine JC.nz [(0, .slice pa p.length pc), (2, .bool false)] [] (fun _ => ?_) 
 refine go ?_
 refine jA [] (D_dTxRight pa pc p (by omega)) (hpre := fun w hw => hw.seeOut_ hs_pa nM) ?_
 rintro _ _ ⟨a_70, c_71, l_72, z_73, hO_74, hd_75, rfl, rfl⟩
 refine go ?_
 refine jG xzc fun b_76 => ?_
 refine go ?_
 refine jD 0 (xc z_73) ?_
 refine go ?_
 have hd_75n := hd_75.n
 have hd_75r := hd_75.r
 have hd_75w := hd_75.w
 have hO2_ := (hO_74).1
 refine go ?_
 refine jA [] (D_dTxNew pa pc p (by omega)) (hpre := fun w hw => hw.seeOut_ hs_pa nM) ?_
 rintro _ _ ⟨n_77, n_79, n_81, f_78, f_80, f_82, rfl, rfl⟩
 refine go ?_
 refine jA [] (Y_iTxNew n_77 n_79 n_81) ?_
 rintro _ _ ⟨z_84, hz_85, rfl, rfl⟩
 refine jG xzc fun b_86 => ?_
 refine jD 0 (xc z_84) ?_
 refine go ?_
 refine jA [] (D_dSameTx pa pc p (by omega)) (hpre := fun w hw => hw.seeOut_ hs_pa nM) ?_
 rintro _ _ ⟨y_87, z_88, hd_89, hd_90, rfl, rfl⟩
 refine go ?_
 refine jG xzc fun b_91 => ?_
 refine jG xzc fun b_92 => ?_
 refine jD 1 (xc y_87) ?_
 refine jD 0 (xc z_88) ?_
 refine jb <| jT <| jc ?_
 refine JC.nz [(2, .bool false), (10, .slice a_70 l_72.length c_71), (11, .pointer (some ⟨b_76, 0, none⟩)), (12, iv n_77), (13, iv n_79), (14, iv n_81), (15, .pointer (some ⟨b_86, 0, none⟩)), (16, .pointer (some ⟨b_91, 0, none⟩)), (17, .pointer (some ⟨b_92, 0, none⟩))] [bk b_92 35 (xc z_88), bk b_91 35 (xc y_87), Res.rows (rdsX y_87), Res.rows (rdsX z_88), bk b_86 35 (xc z_84), Res.rows (rdsX z_84), bk b_76 35 (xc z_73), rC a_70 c_71 l_72, Res.rows (rdsX z_73)] (fun _ => ?_) 
 refine go ?_
 refine jH [0, 0, 2, 3] 1000 ?_
 refine go ?_
 refine jB (i := 2) ?_
 refine jI [] (Y_iRight z_73 (hd_75.lim (by decide) (by decide)) a_70 c_71 l_72 10938 hO_74 (by omega) (hd_75.okT (by decide)) (Nat.le_trans (growH (by omega) (by omega)) (by decide)) (Nat.le_trans (growTH (by omega) (by omega)) (by decide))) (hpre := fun w hw => ⟨hw.see (i := 7) rfl, hw.seeRows 8 rfl, hw.hex hlow hpre.2⟩) ?_
 rintro _ _ ⟨rfl, rfl⟩
 refine jB (i := 5) ?_
 refine jI [] (Y_sRight z_73 (hd_75.lim (by decide) (by decide)) a_70 c_71 l_72 10938 hO_74 (by omega) (hd_75.okT (by decide)) (Nat.le_trans (growH (by omega) (by omega)) (by decide)) (Nat.le_trans (growTH (by omega) (by omega)) (by decide))) (hpre := fun w hw => ⟨hw.see (i := 7) rfl, hw.seeRows 8 rfl⟩) ?_
 rintro _ _ ⟨rfl, rfl⟩
 refine jd 6 rfl (PO.neqB Tryz.underlying4 rfl rfl) ?_
 refine go ?_
 have h_93 : (rightA l_72 z_73.t) = (rightL l_72 z_73.t) := (right_eq _ _)
 refine go ?_
 refine jB (i := 12) ?_
 refine jn rfl rfl rfl rfl (cB (cN (dT h_93))) (jO [] Tryz.call55 rfl (Y_sTxNew n_77 n_79 n_81) rfl (fun _ _ => trivial)) ?_
 rintro _ _ ⟨_, ⟨z_96, hz_97, rfl, rfl⟩, rfl⟩
 refine ⟨all_go, ?_⟩
 refine jB (i := 13) ?_
 refine jn rfl rfl rfl rfl (cB (cN (dT h_93))) (jO [] Tryz.call21 rfl (Y_sameTx z_84 z_96 (show z_84.t.lim 1000000000 by rw [hz_85]; exact TD.new_lim)) rfl (fun w hw => ⟨hw.seeRows 6 rfl, hw.seeRows 0 rfl⟩)) ?_
 rintro _ _ ⟨_, ⟨rfl, rfl⟩, rfl⟩
 refine ⟨all_go, ?_⟩
 refine go ?_
 have h_98 : z_84.t = z_96.t := (by rw [hz_85, hz_97])
 refine go ?_
 refine jB (i := 19) ?_
 refine jn rfl rfl rfl rfl (cB (cN (dT h_98))) (jO [] Tryz.call56 rfl (Y_iSameTx y_87 z_88 ((hd_89.lim (by decide) (by decide)).mono (show 500000000 ≤ 1000000000 by decide))) rfl (fun w hw => ⟨hw.seeRows 3 rfl, hw.seeRows 4 rfl⟩)) ?_
 rintro _ _ ⟨_, ⟨rfl, rfl⟩, rfl⟩
 refine ⟨all_go, ?_⟩
 refine jB (i := 22) ?_
 refine jn rfl rfl rfl rfl (cB (cN (dT h_98))) (jO [] Tryz.call21 rfl (Y_sameTx y_87 z_88 ((hd_89.lim (by decide) (by decide)).mono (show 500000000 ≤ 1000000000 by decide))) rfl (fun w hw => ⟨hw.seeRows 3 rfl, hw.seeRows 4 rfl⟩)) ?_
 rintro _ _ ⟨_, ⟨rfl, rfl⟩, rfl⟩
 refine ⟨all_go, ?_⟩
 refine jq 23 rfl (by kernel_rfl) (NP.th (NP.th NP.body)) (by kernel_rfl) (by kernel_rfl) rfl rfl rfl (cB (cN (dT h_98))) (PO.neqB Tryz.underlying4 rfl rfl) <| jd 24 rfl (PO.pickF (v := .bool (!(decide ((decide (y_87.t = z_88.t)) = (decide (y_87.t = z_88.t)))))) (cB (cN (dT h_98))) rfl) <| jd 25 rfl (PO.move (v := .bool (!(decide ((decide (y_87.t = z_88.t)) = (decide (y_87.t = z_88.t)))))) rfl) <| jq 26 rfl (by kernel_rfl) (NP.th (NP.th NP.body)) (by kernel_rfl) (by kernel_rfl) rfl rfl rfl (cB (cN (dT rfl))) (PO.move (v := .slice a_70 l_72.length c_71) rfl) <| kG 27 rfl (by kernel_rfl) (NP.th (NP.th NP.body)) (by kernel_rfl) (by kernel_rfl) (by kernel_rfl) rfl rfl rfl (cB (cN (dT rfl))) (jl 3 (vs := (xc z_73)) rfl rfl kT kQ rfl rfl) <| jq 29 rfl (by kernel_rfl) (NP.th (NP.th NP.body)) (by kernel_rfl) (by kernel_rfl) rfl rfl rfl (cB (cN (dT rfl))) (PO.move (v := .slice a_70 l_72.length c_71) rfl) <| kG 30 rfl (by kernel_rfl) (NP.th (NP.th NP.body)) (by kernel_rfl) (by kernel_rfl) (by kernel_rfl) rfl rfl rfl (cB (cN (dT rfl))) (jl 3 (vs := (xc z_73)) rfl rfl kT kQ rfl rfl) ?_
 refine jB (i := 28) ?_
 refine jn rfl rfl rfl rfl (cB (cN (dT rfl))) (jO [] Tryz.call31 rfl (Y_iTxLaid z_73 (hd_75.lim (by decide) (by decide)) a_70 c_71 l_72 10938 hO_74 (by omega) (hd_75.okT (by decide)) (Nat.le_trans (growH (by omega) (by omega)) (by decide)) (Nat.le_trans (growTH (by omega) (by omega)) (by decide)) hd_75.kw) rfl (fun w hw => ⟨hw.see (i := 8) rfl, hw.seeRows 9 rfl, hw.hex hlow hpre.2⟩)) ?_
 rintro _ _ ⟨_, ⟨a_117, c_118, hO_121, rfl, rfl⟩, rfl⟩
 have hll_122 := laidW_len l_72 (viewA l_72 z_73.t) z_73.t.wr
 refine ⟨all_go, ?_⟩
 refine jB (i := 31) ?_
 refine jn rfl rfl rfl rfl (cB (cN (dT rfl))) (jO [] Tryz.call57 rfl (Y_sTxLaid z_73 (hd_75.lim (by decide) (by decide)) a_70 c_71 l_72 10938 hO_74 (by omega) (hd_75.okT (by decide)) (Nat.le_trans (growH (by omega) (by omega)) (by decide)) (Nat.le_trans (growTH (by omega) (by omega)) (by decide)) hd_75.kw) rfl (fun w hw => ⟨hw.see (i := 9) rfl, hw.seeRows 10 rfl⟩)) ?_
 rintro _ _ ⟨_, ⟨a_129, c_130, hO_133, rfl, rfl⟩, rfl⟩
 have hll_134 := laidW_len l_72 (viewL l_72 z_73.t) z_73.t.wr
 refine ⟨all_go, ?_⟩
 refine jB (i := 32) ?_
 refine jn rfl rfl rfl rfl (cB (cN (dT rfl))) (jO [] Tryz.call18 rfl (C_sameCells a_117 a_129 c_118 c_130 (laidW l_72 (viewA l_72 z_73.t) z_73.t.wr) (laidW l_72 (viewL l_72 z_73.t) z_73.t.wr) (by omega)) rfl (fun w hw => ⟨hw.see (i := 1) rfl, hw.see (i := 0) rfl⟩)) ?_
 rintro _ _ ⟨_, ⟨rfl, rfl⟩, rfl⟩
 refine ⟨all_go, ?_⟩
 refine jq 33 rfl (by kernel_rfl) (NP.th (NP.th NP.body)) (by kernel_rfl) (by kernel_rfl) rfl rfl rfl (cB (cN (dT rfl))) (PO.not rfl) <| jd 34 rfl (PO.pickF (v := .bool (!(decide ((laidW l_72 (viewA l_72 z_73.t) z_73.t.wr) = (laidW l_72 (viewL l_72 z_73.t) z_73.t.wr))))) (cB (cN (dT rfl))) rfl) ?_
 refine go ?_
 first | refine JQ.pk [] ?_ | refine JC.pk [] ?_ | refine JL.pk [] ?_
 refine go ?_
 have h_135 : (laidW l_72 (viewA l_72 z_73.t) z_73.t.wr) = (laidW l_72 (viewL l_72 z_73.t) z_73.t.wr) := (by rw [view_eq])
 refine JC.condF (cB (cN (dT h_135))) <| JC.skip <| jT ?_
 refine JC.nz [(2, .bool false)] [] (fun _ => ?_) 
 refine go ?_
 refine jA [] (D_boot) ?_
 rintro _ _ ⟨l_136a, l_136c, l_136, e_138, f_137, rfl, rfl⟩
 refine jA [] (Y_iTxNew 1 1 1) ?_
 rintro _ _ ⟨z_139, hz_140, rfl, rfl⟩
 refine jN [] (Y_named 1 [120]) ?_
 have hNew : tInv 0 0 z_139.t := by rw [hz_140]; exact tInv.new (by decide)
 have hNewn := hNew.n
 have hNewr := hNew.r
 have hNeww := hNew.w
 refine jA [] (Y_iTxAsk z_139 (hNew.lim (by decide) (by decide)) l_136a l_136c l_136 3 f_137 (by omega) (hNew.okT (by decide)) (askG (fun h_ => growH (by omega) (by omega))) (askT (fun h_ => growTH (by omega) (by omega))) 20000000 (askB (fun h_ => growH (by omega) (by omega))) (⟨1, [120], [], 0, 0, []⟩ : CL) ⟨by (try dsimp only); omega, by (try dsimp only); omega, by (try dsimp only); omega, (show List.length ([120] : Str) ≤ 1048576 by decide), (show List.length ([] : Str) ≤ 1048576 by decide), (show List.length ([] : Str) ≤ 1048576 by decide)⟩) (hpre := fun w hw => ⟨hw.see (i := 1) rfl, hw.seeRows 0 rfl, hw.hex hlow hpre.2⟩) ?_
 rintro _ _ ⟨z_141, A_142, e_143, ha_144, hb_145, rfl, rfl⟩
 refine go ?_
 refine jG xzc fun b_146 => ?_
 refine jG [iv 0, iv 0, str []] fun b_147 => ?_
 refine jD 1 (xc z_141) ?_
 refine jD 0 [iv A_142.code, iv A_142.n, str A_142.text] ?_
 refine go ?_
 have hOne := hNew.ask ⟨by (try dsimp only); omega, by (try dsimp only); omega, by (try dsimp only); omega, by simp, by simp, by simp⟩ (keys_viewA f_137 _) e_143 hb_145
 have hOnen := hOne.n
 have hOner := hOne.r
 have hOnew := hOne.w
 refine JC.cut (fun e_ L_ => ∃ l_148 : List Cell, ∃ l_148a : Option Addr, ∃ l_148c : Nat, ∃ z_151 : TX, ∃ A_152 : AN, ∃ b_156 : Nat, ∃ b_157 : Nat, (okC' 3 1048576 l_148) ∧ (bootS = l_148) ∧ (TD.askV (viewA l_148 z_141.t) z_141.t (⟨5, [], [], 0, 0, []⟩ : CL) = (z_151.t, A_152)) ∧ ((0 ≤ A_152.code ∧ A_152.code ≤ 9) ∧ (-1 ≤ A_152.n ∧ A_152.n ≤ 1000000000) ∧ A_152.text.length ≤ 30000000000000) ∧ (z_151.t.rd.length ≤ z_141.t.rd.length + 20000000 ∧ z_151.t.wr.length ≤ z_141.t.wr.length + 20000000) ∧ EL e_ [(2, .bool false), (20, .pointer (some ⟨b_156, 0, none⟩)), (21, .pointer (some ⟨b_157, 0, none⟩))] ∧ L_ = [bk b_157 39 [iv A_152.code, iv A_152.n, str A_152.text], bk b_156 35 (xc z_151), Res.rows (rdsX z_151), rC l_148a l_148c l_148, bk b_147 39 [iv A_142.code, iv A_142.n, str A_142.text], bk b_146 35 (xc z_141), Res.rows (rdsX z_141), Res.rows (rdsX z_139), rC l_136a l_136c l_136]) ?_ ?_
 · have hOne := hNew.ask ⟨by (try dsimp only); omega, by (try dsimp only); omega, by (try dsimp only); omega, by simp, by simp, by simp⟩ (keys_viewA f_137 _) e_143 hb_145
   have hOnen := hOne.n
   have hOner := hOne.r
   have hOnew := hOne.w
   refine jH [1] 9 ?_
   refine go ?_
   repeat' first
     | refine kD (i := 0) (j := 7) (k := 8) (by decide +kernel) ?_ ?_ ?_
     | refine kD (i := 2) (j := 7) (k := 8) (by decide +kernel) ?_ ?_ ?_
     | refine kD (i := 3) (j := 7) (k := 8) (by decide +kernel) ?_ ?_ ?_
     | refine jZ (i := 7) (j := 8) (by decide +kernel) ?_ ?_
     | refine jB (i := 8) ?_ (by decide +kernel)
     | refine jB (i := 9) ?_ (by decide +kernel)
     | refine jB (i := 10) ?_ (by decide +kernel)
     | refine jB (i := 7) ?_ (by decide +kernel)
     | refine jZ (i := 3) (j := 8) (by decide +kernel) ?_ ?_
     | refine jB (i := 3) ?_ (by decide +kernel)
     | refine jZ (i := 3) (j := 7) (by decide +kernel) ?_ ?_
     | refine jZ (i := 2) (j := 8) (by decide +kernel) ?_ ?_
     | refine jB (i := 2) ?_ (by decide +kernel)
     | refine jZ (i := 2) (j := 7) (by decide +kernel) ?_ ?_
     | refine jZ (i := 0) (j := 8) (by decide +kernel) ?_ ?_
     | refine jB (i := 0) ?_ (by decide +kernel)
     | refine jZ (i := 0) (j := 7) (by decide +kernel) ?_ ?_
     | (refine jI (i := 0) [] (D_boot) ?_; rintro _ _ ⟨l_166a, l_166c, l_166, e_168, f_167, rfl, rfl⟩)
     | (refine jI (i := 2) [] (Y_named 5 []) ?_; rintro _ _ ⟨rfl, rfl⟩)
     | (refine jI (i := 3) [] (Y_iTxAsk z_141 (hOne.lim (by decide) (by decide)) l_166a l_166c l_166 3 f_167 (by omega) (hOne.okT (by decide)) (askG (fun h_ => growH (by omega) (by omega))) (askT (fun h_ => growTH (by omega) (by omega))) 20000000 (askB (fun h_ => growH (by omega) (by omega))) (⟨5, [], [], 0, 0, []⟩ : CL) ⟨by (try dsimp only); omega, by (try dsimp only); omega, by (try dsimp only); omega, (show List.length ([] : Str) ≤ 1048576 by decide), (show List.length ([] : Str) ≤ 1048576 by decide), (show List.length ([] : Str) ≤ 1048576 by decide)⟩) (hpre := fun w hw => ⟨hw.sg, hw.sr, hw.hex hlow hpre.2⟩) ?_; rintro _ _ ⟨z_178, A_179, e_180, ha_181, hb_182, rfl, rfl⟩; refine go ?_)
     | (refine JX.al (i := 7) xzc fun b_185 => ?_)
     | (refine JX.al (i := 8) [iv 0, iv 0, str []] fun b_187 => ?_)
     | (refine JX.sx (i := 9) (xc z_178) ?_)
     | (refine JX.sy (i := 10) [iv A_179.code, iv A_179.n, str A_179.text] ?_)
     | exact JQ.cq ⟨l_166, l_166a, l_166c, z_178, A_179, b_185, b_187, f_167, e_168, e_180, ha_181, hb_182, EL.go, rfl⟩
 rintro _ _ ⟨l_148, l_148a, l_148c, z_151, A_152, b_156, b_157, f_149, e_150, e_153, ha_154, hb_155, ⟨_, rfl⟩, rfl⟩
 first | refine JQ.pk [0, 0, 0] ?_ | refine JC.pk [0, 0, 0] ?_ | refine JL.pk [0, 0, 0] ?_
 refine go ?_
 have hTwo := hOne.ask ⟨by (try dsimp only); omega, by (try dsimp only); omega, by (try dsimp only); omega, by simp, by simp, by simp⟩ (keys_viewA f_149 _) e_153 hb_155
 have hTwon := hTwo.n
 have hTwor := hTwo.r
 have hTwow := hTwo.w
 have hb1 := e_143
 rw [← e_138] at hb1
 have hb2 := e_153
 rw [← e_150] at hb2
 obtain ⟨hE1, hE2, hE3⟩ := boot_sees hz_140 hb1 hb2
 refine jH [0, 0] 22 ?_
 refine go ?_
 refine jB (i := 0) ?_
 refine jI [] (D_boot) ?_
 rintro _ _ ⟨l_443a, l_443c, l_443, e_445, f_444, rfl, rfl⟩
 refine jB (i := 2) ?_
 refine jI [] (Y_iRight z_151 (hTwo.lim (by decide) (by decide)) l_443a l_443c l_443 3 f_444 (by omega) (hTwo.okT (by decide)) (Nat.le_trans (growH (by omega) (by omega)) (by decide)) (Nat.le_trans (growTH (by omega) (by omega)) (by decide))) (hpre := fun w hw => ⟨hw.see (i := 0) rfl, hw.seeRows 3 rfl, hw.hex hlow hpre.2⟩) ?_
 rintro _ _ ⟨rfl, rfl⟩
 refine go ?_
 refine jq 4 rfl (by kernel_rfl) (NP.th NP.body) (by kernel_rfl) (by kernel_rfl) rfl rfl rfl (cB (by rw [← e_445]; exact hE1)) (PO.fieldAddr fo39_2 rfl) <| kG 5 rfl (by kernel_rfl) (NP.th NP.body) (by kernel_rfl) (by kernel_rfl) (by kernel_rfl) rfl rfl rfl (cB (by rw [← e_445]; exact hE1)) (LO.load1 0 (v := str A_152.text) rfl rfl kJ rfl) <| jq 6 rfl (by kernel_rfl) (NP.th NP.body) (by kernel_rfl) (by kernel_rfl) rfl rfl rfl (cB (by rw [← e_445]; exact hE1)) (PO.eqlS rfl rfl) <| jd 7 rfl (PO.pickT (v := .bool (decide (A_152.text = [120, 32]))) (cB (by rw [← e_445]; exact hE1)) rfl) ?_
 refine go ?_
 have h_446 : A_152.text = [120, 32] := hE2
 refine jB (i := 9) ?_
 refine jn rfl rfl rfl rfl (cB (dT h_446)) (jO [] Tryz.call25 rfl (D_boot) rfl (fun _ _ => trivial)) ?_
 rintro _ _ ⟨_, ⟨l_450a, l_450c, l_450, e_452, f_451, rfl, rfl⟩, rfl⟩
 refine ⟨all_go, ?_⟩
 refine jB (i := 10) ?_
 refine jn rfl rfl rfl rfl (cB (dT h_446)) (jO [] Tryz.call58 rfl (N_skeysUnder l_450a l_450c l_450 [110, 47] (by have hl_ := (show okC' (3) 1048576 l_450 from f_451).1; omega) (by decide) (fun j hj => Nat.le_trans ((show okC' (3) 1048576 l_450 from f_451).2 _ (getD_mem hj)).1 (by decide))) rfl (fun w hw => hw.see (i := 0) rfl)) ?_
 rintro _ _ ⟨_, ⟨a_458, c_459, _, rfl, hl_462, rfl, rfl⟩, rfl⟩
 refine ⟨all_go, ?_⟩
 refine go ?_
 have h_463 : (((keysUnder l_450 [110, 47]).length : Nat) : Int) = 0 := (by rw [← e_452]; exact congrArg Nat.cast boot_names)
 refine go ?_
 refine jB (i := 15) ?_
 refine jn rfl rfl rfl rfl (cB (dT h_463)) (jO [] Tryz.call25 rfl (D_boot) rfl (fun _ _ => trivial)) ?_
 rintro _ _ ⟨_, ⟨l_470a, l_470c, l_470, e_472, f_471, rfl, rfl⟩, rfl⟩
 refine ⟨all_go, ?_⟩
 refine jB (i := 17) ?_
 refine jn rfl rfl rfl rfl (cB (dT h_463)) (jO [] Tryz.call31 rfl (Y_iTxLaid z_151 (hTwo.lim (by decide) (by decide)) l_470a l_470c l_470 3 f_471 (by omega) (hTwo.okT (by decide)) (Nat.le_trans (growH (by omega) (by omega)) (by decide)) (Nat.le_trans (growTH (by omega) (by omega)) (by decide)) hTwo.kw) rfl (fun w hw => ⟨hw.see (i := 0) rfl, hw.seeRows 6 rfl, hw.hex hlow hpre.2⟩)) ?_
 rintro _ _ ⟨_, ⟨a_479, c_480, hO_483, rfl, rfl⟩, rfl⟩
 have hll_484 := laidW_len l_470 (viewA l_470 z_151.t) z_151.t.wr
 refine ⟨all_go, ?_⟩
 refine jB (i := 18) ?_
 refine jn rfl rfl rfl rfl (cB (dT h_463)) (jO [] Tryz.call58 rfl (N_skeysUnder a_479 c_480 (laidW l_470 (viewA l_470 z_151.t) z_151.t.wr) [110, 47] (by have hl_ := (show okC' (3 + z_151.t.wr.length) 1048576 (laidW l_470 (viewA l_470 z_151.t) z_151.t.wr) from (laidW_ok f_471 (Nat.le_refl _))).1; omega) (by decide) (fun j hj => Nat.le_trans ((show okC' (3 + z_151.t.wr.length) 1048576 (laidW l_470 (viewA l_470 z_151.t) z_151.t.wr) from (laidW_ok f_471 (Nat.le_refl _))).2 _ (getD_mem hj)).1 (by decide))) rfl (fun w hw => hw.see (i := 0) rfl)) ?_
 rintro _ _ ⟨_, ⟨a_490, c_491, _, rfl, hl_494, rfl, rfl⟩, rfl⟩
 refine ⟨all_go, ?_⟩
 refine go ?_
 first | refine JQ.pk [] ?_ | refine JC.pk [] ?_ | refine JL.pk [] ?_
 refine go ?_
 have h_495 : (((keysUnder (laidW l_470 (viewA l_470 z_151.t) z_151.t.wr) [110, 47]).length : Nat) : Int) = 1 := (by rw [← e_472]; exact congrArg Nat.cast hE3)
 first | refine kA 2 (v := .bool true) (cB (dT h_495)) ?_ | refine jv 2 (v := .bool true) (cB (dT h_495)) ?_ | refine kB 2 (v := .bool true) (cB (dT h_495)) ?_ | refine kC 2 (v := .bool true) (cB (dT h_495)) ?_
 exact jJ [] ⟨rfl, rfl⟩
end Go.Proofs.YthlfmbbaomdciaaGreatDoor
