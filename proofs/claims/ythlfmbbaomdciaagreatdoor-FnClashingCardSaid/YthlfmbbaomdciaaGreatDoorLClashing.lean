/-
Texts of the walk, joined: what each one proves stands at its theorems.
-/
import Derived.Test.YthlfmbbaomdciaaGreatDoorXClashingS84CLASH
import Derived.Test.YthlfmbbaomdciaaGreatDoorXClashingS85CDRAW
set_option linter.unusedSimpArgs false
set_option linter.unusedVariables false
set_option linter.unnecessarySimpa false
set_option maxHeartbeats 40000000
set_option maxRecDepth 4000
namespace Go.Proofs.YthlfmbbaomdciaaGreatDoor
open Go Go.RowKit
attribute [local irreducible] JL JC JQ JO LO PO JA JX Ct
def findT2 (l : List TD) (id : Int) : Int := findT l id
theorem N_sFindK (a : Option Addr) (c : Nat) (l : List TX) (hn : l.length ≤ 1000000000) (id : Int) :
   Ct Tryz.prog 78 [.slice a l.length c, .int .i64 id] [] (fun w_ => Sees w_ (.slice a l.length c) 10 l.length (l.flatMap encX)) (fun v A' => v = .int .i64 (findT2 (l.map TX.t) id) ∧ A' = []) := N_sFindTx a c l hn id
set_option maxRecDepth 8000 in
theorem L_Clashing (pa : Option Addr) (pc : Nat) (p : Str) :
   Ct Tryz.prog 11 [.slice pa p.length pc] [] (fun w => Sees w (.slice pa p.length pc) 1 p.length (p.map encB) ∧ HexOk w) (fun v A' => v = .bool true ∧ A' = []) := by
 refine Ct.introL Tryz.func11 rfl Tryz.ntmps11 (lb rfl) fun w0 hpre hlow => ?_
 have hs_pa : Sees w0 _ _ _ _ := hpre.1
 refine go ?_
 refine jN [] (N_big pa pc p) ?_
 refine go ?_
 by_cases h_1 : 1048576 < ((p.length : Nat) : Int)
 · refine go ?_
   exact jJ [] ⟨rfl, rfl⟩
 refine go ?_
 refine jA [] (D_dClashes pa pc p (by omega)) (hpre := fun w hw => hw.seeOut_ hs_pa nM) ?_
 rintro _ _ ⟨a_2, c_3, y_4, a_5, c_6, r_7, a_8, c_9, u_10, tr_11, n_12, hx_13, ho_14, hs_15, rfl, rfl⟩
 have hx_131 := hx_13.1
 refine go ?_
 refine jG [.slice none 0 0, .slice none 0 0] fun b_16 => ?_
 refine go ?_
 refine jD 0 [.slice a_5 r_7.length c_6, .slice a_8 u_10.length c_9] ?_
 refine go ?_
 refine jA [] (C_iClashes a_2 c_3 y_4 (by omega) hx_13.ok n_12 a_5 a_8 c_6 c_9 r_7 u_10 ho_14.1 ho_14.2) (hpre := fun w hw => ⟨hw.seeRows 1 rfl, (hs_15 _ (hw.seeRows 1 rfl) (hw.seeRows 2 rfl)).1, (hs_15 _ (hw.seeRows 1 rfl) (hw.seeRows 2 rfl)).2⟩) ?_
 rintro _ _ ⟨a_17, c_18, rfl, rfl⟩
 have hil_19 : (idsT (clashP r_7 u_10 n_12) (y_4.map TX.t)).length ≤ y_4.length := by have h_ := idsT_len (clashP r_7 u_10 n_12) (y_4.map TX.t); rwa [List.length_map] at h_
 refine go ?_
 refine jA [] (C_sClashes a_2 c_3 y_4 (by omega) hx_13.ok n_12 a_5 a_8 c_6 c_9 r_7 u_10 ho_14.1 ho_14.2) (hpre := fun w hw => ⟨hw.seeRows 2 rfl, (hs_15 _ (hw.seeRows 2 rfl) (hw.seeRows 3 rfl)).1, (hs_15 _ (hw.seeRows 2 rfl) (hw.seeRows 3 rfl)).2⟩) ?_
 rintro _ _ ⟨a_20, c_21, rfl, rfl⟩
 have hil_22 : (idsT (clashP r_7 u_10 n_12) (y_4.map TX.t)).length ≤ y_4.length := by have h_ := idsT_len (clashP r_7 u_10 n_12) (y_4.map TX.t); rwa [List.length_map] at h_
 refine jN [] (C_sameInts a_17 a_20 c_18 c_21 (idsT (clashP r_7 u_10 n_12) (y_4.map TX.t)) (idsT (clashP r_7 u_10 n_12) (y_4.map TX.t)) (by omega)) (hpre := fun w hw => ⟨hw.see (i := 1) rfl, hw.see (i := 0) rfl⟩) ?_
 first | refine kA 35 (v := .bool true) (cB (dT rfl)) ?_ | refine jv 35 (v := .bool true) (cB (dT rfl)) ?_ | refine kB 35 (v := .bool true) (cB (dT rfl)) ?_ | refine kC 35 (v := .bool true) (cB (dT rfl)) ?_
 refine go ?_
 refine jW rfl rfl rfl (cB rfl) (jO [] Tryz.call60 rfl (Y_implApart a_2 c_3 y_4 (by omega) hx_13.ok) rfl (fun w hw => hw.seeRows 3 rfl)) ?_
 rintro _ _ ⟨_, ⟨rfl, rfl⟩, rfl⟩
 refine go ?_
 refine jW rfl rfl rfl (cB rfl) (jO [] Tryz.call70 rfl (Y_specApart a_2 c_3 y_4 (by omega) hx_13.ok) rfl (fun w hw => hw.seeRows 3 rfl)) ?_
 rintro _ _ ⟨_, ⟨rfl, rfl⟩, rfl⟩
 refine jW rfl rfl rfl (cB rfl) (jm (LO.pure (PO.neqB Tryz.underlying4 rfl rfl))) ?_
 rintro _ _ ⟨rfl, rfl⟩
 first | refine kA 42 (v := .bool false) (cB (cN (dT rfl))) ?_ | refine jv 42 (v := .bool false) (cB (cN (dT rfl))) ?_ | refine kB 42 (v := .bool false) (cB (cN (dT rfl))) ?_ | refine kC 42 (v := .bool false) (cB (cN (dT rfl))) ?_
 refine go ?_
 refine jW rfl rfl rfl (cB rfl) (jO [] Tryz.call71 rfl (C_iLiveIn a_2 c_3 y_4 (by (try simp only [List.length_cons, List.length_nil]); omega)) rfl (fun w hw => (hw.seeRows 3 rfl).head)) ?_
 rintro _ _ ⟨_, ⟨a_23, c_24, rfl, rfl⟩, rfl⟩
 have hil_25 : (idsT liveP (y_4.map TX.t)).length ≤ y_4.length := by have h_ := idsT_len liveP (y_4.map TX.t); rwa [List.length_map] at h_
 refine go ?_
 refine jW rfl rfl rfl (cB rfl) (jO [] Tryz.call72 rfl (C_sLiveIn a_2 c_3 y_4 (by (try simp only [List.length_cons, List.length_nil]); omega)) rfl (fun w hw => (hw.seeRows 4 rfl).head)) ?_
 rintro _ _ ⟨_, ⟨a_26, c_27, rfl, rfl⟩, rfl⟩
 have hil_28 : (idsT liveP (y_4.map TX.t)).length ≤ y_4.length := by have h_ := idsT_len liveP (y_4.map TX.t); rwa [List.length_map] at h_
 refine jW rfl rfl rfl (cB rfl) (jO [] Tryz.call68 rfl (C_sameInts a_23 a_26 c_24 c_27 (idsT liveP (y_4.map TX.t)) (idsT liveP (y_4.map TX.t)) (by omega)) rfl (fun w hw => ⟨hw.see (i := 1) rfl, hw.see (i := 0) rfl⟩)) ?_
 rintro _ _ ⟨_, ⟨rfl, rfl⟩, rfl⟩
 first | refine kA 49 (v := .bool true) (cB (dT rfl)) ?_ | refine jv 49 (v := .bool true) (cB (dT rfl)) ?_ | refine kB 49 (v := .bool true) (cB (dT rfl)) ?_ | refine kC 49 (v := .bool true) (cB (dT rfl)) ?_
 refine go ?_
 first | refine JQ.pk [3, 3, 3, 3] ?_ | refine JC.pk [3, 3, 3, 3] ?_ | refine JL.pk [3, 3, 3, 3] ?_
 refine go ?_
 refine jA [] (D_dFindTx pa pc p (by omega)) (hpre := fun w hw => hw.seeOut_ hs_pa nM) ?_
 rintro _ _ ⟨a_29, c_30, y_31, n_32, hx_33, rfl, rfl⟩
 have hx_331 := hx_33.1
 refine go ?_
 refine jA [] (D_dWould pa pc p (by omega)) (hpre := fun w hw => hw.seeOut_ hs_pa nM) ?_
 rintro _ _ ⟨a_34, c_35, l_36, z_37, C_38, hO_39, hd_40, hC_41, rfl, rfl⟩
 refine go ?_
 refine jG xzc fun b_42 => ?_
 refine jG [iv 0, str [], str [], iv 0, iv 0, str []] fun b_43 => ?_
 refine go ?_
 refine jD 1 (xc z_37) ?_
 refine jD 0 [iv C_38.kind, str C_38.name, str C_38.to_, iv C_38.a, iv C_38.b, str C_38.text] ?_
 refine go ?_
 have hd_40n := hd_40.n
 have hO_ := (hO_39).1
 refine go ?_
 refine jA [] (D_dDropped pa pc p (by omega)) (hpre := fun w hw => hw.seeOut_ hs_pa nM) ?_
 rintro _ _ ⟨a_44, c_45, y_46, a_47, c_48, o_49, hx_50, ho_51, rfl, rfl⟩
 have hx_501 := hx_50.1
 refine go ?_
 refine jA [] (C_iDropped a_44 c_45 y_46 (by omega) hx_50.lim a_47 c_48 o_49 (by omega)) (hpre := fun w hw => ⟨hw.seeRows 0 rfl, hw.see (i := 1) rfl⟩) ?_
 rintro _ _ ⟨a_52, c_53, y_54, hy_55, rfl, rfl⟩
 have hyl_56 : y_54.length = y_46.length := by have h_ := drop_len hy_55; rwa [List.length_map] at h_
 refine go ?_
 refine jH [3, 3] 1000 ?_
 refine go ?_
 refine jB (i := 2) ?_
 refine ja rfl rfl (jO [] Tryz.call77 rfl (N_iFindTx a_29 c_30 y_31 (by (try simp only [List.length_take]); omega) n_32) rfl (fun w hw => (hw.seeRows 7 rfl).head)) ?_
 rintro _ _ ⟨_, ⟨rfl, rfl⟩, rfl⟩
 have hlo_60 := idxT_lo (fun t => t.id = n_32) (y_31.map TX.t)
 refine ⟨all_go, ?_⟩
 refine jB (i := 5) ?_
 refine ja rfl rfl (jO [] Tryz.call78 rfl (N_sFindK a_29 c_30 y_31 (by omega) n_32) rfl (fun w hw => (hw.seeRows 7 rfl).head)) ?_
 rintro _ _ ⟨_, ⟨rfl, rfl⟩, rfl⟩
 have hfk0 := idxT_lo (fun t => t.id = n_32) (y_31.map TX.t)
 refine ⟨all_go, ?_⟩
 refine go ?_
 have h_61 : (findT (y_31.map TX.t) n_32) = (findT2 (y_31.map TX.t) n_32) := rfl
 refine go ?_
 refine jB (i := 11) ?_
 refine jn rfl rfl rfl rfl (cB (cN (dT h_61))) (jO [] Tryz.call79 rfl (Y_iWould z_37 (hd_40.lim (by decide) (by decide)) a_34 c_35 l_36 10938 hO_39 (by omega) (hd_40.okT (by decide)) (Nat.le_trans (growH (by omega) (by omega)) (by decide)) (Nat.le_trans (growTH (by omega) (by omega)) (by decide)) C_38 hC_41) rfl (fun w hw => ⟨hw.see (i := 5) rfl, hw.seeRows 6 rfl, hw.hex hlow hpre.2⟩)) ?_
 rintro _ _ ⟨_, ⟨x_82, m_83, A_84, e_85, hb_86, rfl, rfl⟩, rfl⟩
 obtain ⟨hb_86r, hb_86w⟩ := hb_86
 refine ⟨all_go, ?_⟩
 refine jB (i := 15) ?_
 refine jn rfl rfl rfl rfl (cB (cN (dT h_61))) (jO [] Tryz.call80 rfl (Y_sWould z_37 (hd_40.lim (by decide) (by decide)) a_34 c_35 l_36 10938 hO_39 (by omega) (hd_40.okT (by decide)) (Nat.le_trans (growH (by omega) (by omega)) (by decide)) (Nat.le_trans (growTH (by omega) (by omega)) (by decide)) C_38 hC_41) rfl (fun w hw => ⟨hw.see (i := 7) rfl, hw.seeRows 8 rfl⟩)) ?_
 rintro _ _ ⟨_, ⟨x_92, m_93, A_94, e_95, hb_96, rfl, rfl⟩, rfl⟩
 obtain ⟨hb_96r, hb_96w⟩ := hb_96
 refine ⟨all_go, ?_⟩
 have hme : m_83 = m_93 := congrArg Prod.fst (e_85.symm.trans ((by rw [view_eq] : _ = _).trans e_95))
 refine jB (i := 16) ?_
 refine jn rfl rfl rfl rfl (cB (cN (dT h_61))) (jO [] Tryz.call26 rfl (C_sameTouch x_82.a1 x_82.a2 x_92.a1 x_92.a2 x_82.c1 x_82.c2 x_92.c1 x_92.c2 m_83.r m_83.w m_93.r m_93.w (by omega) (by omega)) rfl (fun w hw => ⟨hw.see (i := 2) rfl, hw.see (i := 3) rfl, hw.see (i := 0) rfl, hw.see (i := 1) rfl⟩)) ?_
 rintro _ _ ⟨_, ⟨rfl, rfl⟩, rfl⟩
 refine ⟨all_go, ?_⟩
 refine go ?_
 refine jq 20 rfl (by kernel_rfl) (NP.th (NP.th NP.body)) (by kernel_rfl) (by kernel_rfl) rfl rfl rfl (cB (cN (show (decide (m_83.r = m_93.r) && decide (m_83.w = m_93.w)) = true by rw [hme]; simp))) (PO.move (v := .slice a_52 y_54.length c_53) rfl) <| jq 21 rfl (by kernel_rfl) (NP.th (NP.th NP.body)) (by kernel_rfl) (by kernel_rfl) rfl rfl rfl (cB (cN (show (decide (m_83.r = m_93.r) && decide (m_83.w = m_93.w)) = true by rw [hme]; simp))) (PO.move (v := .slice a_44 y_46.length c_45) rfl) <| jq 22 rfl (by kernel_rfl) (NP.th (NP.th NP.body)) (by kernel_rfl) (by kernel_rfl) rfl rfl rfl (cB (cN (show (decide (m_83.r = m_93.r) && decide (m_83.w = m_93.w)) = true by rw [hme]; simp))) (PO.move (v := .slice a_47 o_49.length c_48) rfl) ?_
 refine jB (i := 23) ?_
 refine jn rfl rfl rfl rfl (cB (cN (show (decide (m_83.r = m_93.r) && decide (m_83.w = m_93.w)) = true by rw [hme]; simp))) (jO [] Tryz.call82 rfl (C_sDropped a_44 c_45 y_46 (by omega) hx_50.lim a_47 c_48 o_49 (by omega)) rfl (fun w hw => ⟨hw.seeRows 5 rfl, hw.see (i := 6) rfl⟩)) ?_
 rintro _ _ ⟨_, ⟨a_102, c_103, y_104, hy_105, rfl, rfl⟩, rfl⟩
 have hyl_106 : y_104.length = y_46.length := by have h_ := drop_len hy_105; rwa [List.length_map] at h_
 refine ⟨all_go, ?_⟩
 refine jB (i := 24) ?_
 refine jn rfl rfl rfl rfl (cB (cN (show (decide (m_83.r = m_93.r) && decide (m_83.w = m_93.w)) = true by rw [hme]; simp))) (jO [] Tryz.call81 rfl (Y_sameTxs a_52 c_53 y_54 (by omega) (lim_drop hx_50.lim hy_55) a_102 c_103 y_104) rfl (fun w hw => ⟨hw.seeRows 5 rfl, hw.seeRows 0 rfl⟩)) ?_
 rintro _ _ ⟨_, ⟨rfl, rfl⟩, rfl⟩
 refine ⟨all_go, ?_⟩
 refine jq 25 rfl (by kernel_rfl) (NP.th (NP.th NP.body)) (by kernel_rfl) (by kernel_rfl) rfl rfl rfl (cB (cN (show (decide (m_83.r = m_93.r) && decide (m_83.w = m_93.w)) = true by rw [hme]; simp))) (PO.not rfl) <| jd 26 rfl (PO.pickF (v := .bool (!(decide (y_54.map TX.t = y_104.map TX.t)))) (cB (cN (show (decide (m_83.r = m_93.r) && decide (m_83.w = m_93.w)) = true by rw [hme]; simp))) rfl) ?_
 refine go ?_
 first | refine JQ.pk [5, 5, 5, 10, 10, 10, 10] ?_ | refine JC.pk [5, 5, 5, 10, 10, 10, 10] ?_ | refine JL.pk [5, 5, 5, 10, 10, 10, 10] ?_
 refine go ?_
 have h_107 : y_54.map TX.t = y_104.map TX.t := (hy_55.trans hy_105.symm)
 refine JC.condF (cB (cN (dT h_107))) <| JC.skip <| jT <| jc <| jc <| JC.ghost (L' := [Res.row (.slice a_52 y_54.length c_53) 35 10 y_54.length (y_54.flatMap encX), Res.rows (y_54.flatMap rdsX), Res.rows (rdsXS a_44 c_45 y_46), rI a_47 c_48 o_49, rI a_17 c_18 (idsT (clashP r_7 u_10 n_12) (y_4.map TX.t)), bk b_16 32 [.slice a_5 r_7.length c_6, .slice a_8 u_10.length c_9], Res.rows (rdsXS a_2 c_3 y_4), Res.rows (tr_11)]) (fun w hw => hw.headR (r := ⟨.slice a_52 y_54.length c_53, 35, 10, y_54.length, y_54.flatMap encX⟩) (A := y_54.flatMap rdsX) 0 rfl) ?_
 refine go ?_
 refine jL (fun k_ e_ L_ => ∃ i_ : Nat, (i_ ≤ y_54.length) ∧ EL e_ [(3, .slice a_2 y_4.length c_3), (4, .pointer (some ⟨b_16, 0, none⟩)), (5, iv n_12), (6, .slice a_17 (idsT (clashP r_7 u_10 n_12) (y_4.map TX.t)).length c_18), (12, .slice a_44 y_46.length c_45), (13, .slice a_47 o_49.length c_48), (14, .slice a_52 y_54.length c_53), (15, nv i_)] ∧ L_ = [Res.row (.slice a_52 y_54.length c_53) 35 10 y_54.length (y_54.flatMap encX), Res.rows (y_54.flatMap rdsX), Res.rows (rdsXS a_44 c_45 y_46), rI a_47 c_48 o_49, rI a_17 c_18 (idsT (clashP r_7 u_10 n_12) (y_4.map TX.t)), bk b_16 32 [.slice a_5 r_7.length c_6, .slice a_8 u_10.length c_9], Res.rows (rdsXS a_2 c_3 y_4), Res.rows (tr_11)] ∧ k_ = y_54.length - i_) _ ⟨0, by omega, EL.go, rfl, rfl⟩ ?_
 rintro _ _ _ ⟨i_, hi, ⟨_, rfl⟩, rfl, rfl⟩
 refine go ?_
 by_cases h_108 : ((i_ : Nat) : Int) < ((y_54.length : Nat) : Int)
 · have hlti : i_ < y_54.length := by omega
   refine go ?_
   refine jL (fun k_ e_ L_ => ∃ n_ : Nat, (n_ ≤ o_49.length) ∧ EL e_ [(3, .slice a_2 y_4.length c_3), (4, .pointer (some ⟨b_16, 0, none⟩)), (5, iv n_12), (6, .slice a_17 (idsT (clashP r_7 u_10 n_12) (y_4.map TX.t)).length c_18), (12, .slice a_44 y_46.length c_45), (13, .slice a_47 o_49.length c_48), (14, .slice a_52 y_54.length c_53), (15, nv i_), (16, nv n_)] ∧ L_ = [Res.row (.slice a_52 y_54.length c_53) 35 10 y_54.length (y_54.flatMap encX), Res.rows (y_54.flatMap rdsX), Res.rows (rdsXS a_44 c_45 y_46), rI a_47 c_48 o_49, rI a_17 c_18 (idsT (clashP r_7 u_10 n_12) (y_4.map TX.t)), bk b_16 32 [.slice a_5 r_7.length c_6, .slice a_8 u_10.length c_9], Res.rows (rdsXS a_2 c_3 y_4), Res.rows (tr_11)] ∧ k_ = o_49.length - n_) _ ⟨0, by omega, EL.go, rfl, rfl⟩ ?_
   rintro _ _ _ ⟨n_, hk, ⟨_, rfl⟩, rfl, rfl⟩
   refine go ?_
   by_cases h_109 : ((n_ : Nat) : Int) < ((o_49.length : Nat) : Int)
   · have hltk : n_ < o_49.length := by omega
     refine go ?_
     refine jH [] 1000 ?_
     refine go ?_
     refine JA.facts fun hst => ?_
     obtain ⟨hr_110, hr_110b, -⟩ := row_some 0 rfl (by omega) hst
     refine go ?_
     refine JA.facts fun hst => ?_
     obtain ⟨hr_111, hr_111b, -⟩ := row_some 3 rfl (by omega) hst
     refine go ?_
     refine jZ (i := 4) (j := 8) (by kernel_rfl) ?_ ?_
     · refine ja rfl rfl (jm (jr 0 (v := iv (y_54.getD i_ x0).t.id) rfl rfl kR (flat_at encX_len x0 y_54 i_ 0 (by omega) (by decide)))) ?_
       rintro _ _ ⟨rfl, rfl⟩
       refine ⟨all_go, ?_⟩
       refine jB (i := 8) ?_
       refine ja rfl rfl (jm (jr 3 (v := iv (o_49.getD n_ 0)) rfl rfl kR (atI (by omega)))) ?_
       rintro _ _ ⟨rfl, rfl⟩
       refine ⟨all_go, ?_⟩
       refine go ?_
       by_cases h_112 : (y_54.getD i_ x0).t.id = (o_49.getD n_ 0)
       · refine go ?_
         refine jB (i := 15) ?_
         refine jn rfl rfl rfl rfl (cB (dT h_112)) (jm (jr 0 (v := iv (y_54.getD i_ x0).t.state) rfl rfl kR (flat_at encX_len x0 y_54 i_ 9 (by omega) (by decide)))) ?_
         rintro _ _ ⟨rfl, rfl⟩
         refine ⟨all_go, ?_⟩
         refine go ?_
         have h_113 : ¬ ((y_54.getD i_ x0).t.state = 1) := (fun h_ => drop_dead hy_55 hlti hltk h_112 h_)
         refine go ?_
         refine jV (o_49.length - (n_ + 1)) (by omega) ⟨n_ + 1, by omega, EL.go, rfl, rfl⟩
       refine go ?_
       refine jV (o_49.length - (n_ + 1)) (by omega) ⟨n_ + 1, by omega, EL.go, rfl, rfl⟩
     refine ja rfl rfl (jm (jr 3 (v := iv (o_49.getD n_ 0)) rfl rfl kR (atI (by omega)))) ?_
     rintro _ _ ⟨rfl, rfl⟩
     refine ⟨all_go, ?_⟩
     refine jB (i := 4) ?_
     refine ja rfl rfl (jm (jr 0 (v := iv (y_54.getD i_ x0).t.id) rfl rfl kR (flat_at encX_len x0 y_54 i_ 0 (by omega) (by decide)))) ?_
     rintro _ _ ⟨rfl, rfl⟩
     refine ⟨all_go, ?_⟩
     refine go ?_
     by_cases h_114 : (y_54.getD i_ x0).t.id = (o_49.getD n_ 0)
     · refine go ?_
       refine jB (i := 15) ?_
       refine jn rfl rfl rfl rfl (cB (dT h_114)) (jm (jr 0 (v := iv (y_54.getD i_ x0).t.state) rfl rfl kR (flat_at encX_len x0 y_54 i_ 9 (by omega) (by decide)))) ?_
       rintro _ _ ⟨rfl, rfl⟩
       refine ⟨all_go, ?_⟩
       refine go ?_
       have h_115 : ¬ ((y_54.getD i_ x0).t.state = 1) := (fun h_ => drop_dead hy_55 hlti hltk h_114 h_)
       refine go ?_
       refine jV (o_49.length - (n_ + 1)) (by omega) ⟨n_ + 1, by omega, EL.go, rfl, rfl⟩
     refine go ?_
     refine jV (o_49.length - (n_ + 1)) (by omega) ⟨n_ + 1, by omega, EL.go, rfl, rfl⟩
   refine go ?_
   refine jV (y_54.length - (i_ + 1)) (by omega) ⟨i_ + 1, by omega, EL.go, rfl, rfl⟩
 refine go ?_
 refine jA [] (C_iDropped a_2 c_3 y_4 (by omega) hx_13.lim a_17 c_18 (idsT (clashP r_7 u_10 n_12) (y_4.map TX.t)) (by omega)) (hpre := fun w hw => ⟨hw.seeRows 6 rfl, hw.see (i := 4) rfl⟩) ?_
 rintro _ _ ⟨a_116, c_117, y_118, hy_119, rfl, rfl⟩
 have hyl_120 : y_118.length = y_4.length := by have h_ := drop_len hy_119; rwa [List.length_map] at h_
 refine go ?_
 refine jA [] (C_iClashes a_116 c_117 y_118 (by omega) (okL2.drop hx_13.ok hy_119) n_12 a_5 a_8 c_6 c_9 r_7 u_10 ho_14.1 ho_14.2) (hpre := fun w hw => ⟨hw.seeRows 0 rfl, (hs_15 _ (hw.seeRows 7 rfl) (hw.seeRows 8 rfl)).1, (hs_15 _ (hw.seeRows 7 rfl) (hw.seeRows 8 rfl)).2⟩) ?_
 rintro _ _ ⟨a_121, c_122, rfl, rfl⟩
 have hil_123 : (idsT (clashP r_7 u_10 n_12) (y_118.map TX.t)).length ≤ y_118.length := by have h_ := idsT_len (clashP r_7 u_10 n_12) (y_118.map TX.t); rwa [List.length_map] at h_
 refine go ?_
 have h_124 : (((idsT (clashP r_7 u_10 n_12) (y_118.map TX.t)).length : Nat) : Int) = 0 := (by have h_ := clash_len hy_119; omega)
 refine go ?_
 have h_125 : ((y_54.length : Nat) : Int) = ((y_46.length : Nat) : Int) := (by omega)
 refine jW rfl rfl rfl (cB (dT h_125)) (jm (LO.pure (je (ps := [(0, iv 4), (8, iv 1)]) (cs := [iv 4, iv 0, iv 0, iv 0, .slice none 0 0, .slice none 0 0, .slice none 0 0, .slice none 0 0, .slice none 0 0, iv 1]) rfl (by kernel_rfl)))) ?_
 rintro _ _ ⟨rfl, rfl⟩
 refine jW rfl rfl rfl (cB (dT h_125)) (jR (ps := [(0, .agg #[iv 4, iv 0, iv 0, iv 0, .slice none 0 0, .slice none 0 0, .slice none 0 0, .slice none 0 0, .slice none 0 0, iv 1])]) (cur := #[iv 4, iv 0, iv 0, iv 0, .slice none 0 0, .slice none 0 0, .slice none 0 0, .slice none 0 0, .slice none 0 0, iv 1]) km kQ Tryz.zeroValue35 rfl (by kernel_rfl) (by decide) (by decide)) ?_
 rintro _ _ ⟨a_126, rfl, rfl⟩
 refine jW rfl rfl rfl (cB (dT h_125)) (jO [] Tryz.call71 rfl (C_iLiveIn a_126 1 ([(⟨⟨none, 0, none, 0, none, 0, none, 0, none, 0⟩, ⟨4, 0, 0, 0, [], [], [], [], [], 1⟩⟩ : TX)] : List TX) (by (try simp only [List.length_cons, List.length_nil]); omega)) rfl (fun w hw => hw.see (i := 0) rfl)) ?_
 rintro _ _ ⟨_, ⟨a_127, c_128, rfl, rfl⟩, rfl⟩
 have hil_130 : (idsT liveP (([(⟨⟨none, 0, none, 0, none, 0, none, 0, none, 0⟩, ⟨4, 0, 0, 0, [], [], [], [], [], 1⟩⟩ : TX)] : List TX).map TX.t)).length ≤ 1 := Nat.le_trans (idsT_len liveP (([(⟨⟨none, 0, none, 0, none, 0, none, 0, none, 0⟩, ⟨4, 0, 0, 0, [], [], [], [], [], 1⟩⟩ : TX)] : List TX).map TX.t)) (by exact Nat.le_refl 1)
 refine jW rfl rfl rfl (cB (dT h_125)) (jR (ps := [(0, iv 4)]) (cur := #[iv 4]) kL kS kZ rfl (by kernel_rfl) (by decide) (by decide)) ?_
 rintro _ _ ⟨a_131, rfl, rfl⟩
 refine jW rfl rfl rfl (cB (dT h_125)) (jO [] Tryz.call68 rfl (C_sameInts a_127 a_131 c_128 1 (idsT liveP (([(⟨⟨none, 0, none, 0, none, 0, none, 0, none, 0⟩, ⟨4, 0, 0, 0, [], [], [], [], [], 1⟩⟩ : TX)] : List TX).map TX.t)) ([4] : List Int) (by omega)) rfl (fun w hw => ⟨hw.see (i := 1) rfl, hw.see (i := 0) rfl⟩)) ?_
 rintro _ _ ⟨_, ⟨rfl, rfl⟩, rfl⟩
 refine go ?_
 first | refine JQ.pk [] ?_ | refine JC.pk [] ?_ | refine JL.pk [] ?_
 refine go ?_
 have h_132 : (idsT liveP (([(⟨⟨none, 0, none, 0, none, 0, none, 0, none, 0⟩, ⟨4, 0, 0, 0, [], [], [], [], [], 1⟩⟩ : TX)] : List TX).map TX.t)) = ([4] : List Int) := (by decide +kernel)
 refine jv 2 (v := .bool true) (cB (dT h_132)) ?_
 exact jJ [] ⟨rfl, rfl⟩
end Go.Proofs.YthlfmbbaomdciaaGreatDoor
