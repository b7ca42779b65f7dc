/-
Texts of the walk, joined: what each one proves stands at its theorems.
-/
import Derived.Test.YthlfmbbaomdciaaGreatDoorXTxHoldsS79HOLD
set_option linter.unusedSimpArgs false
set_option linter.unusedVariables false
set_option linter.unnecessarySimpa false
set_option maxHeartbeats 4000000
set_option maxRecDepth 4000
namespace Go.Proofs.YthlfmbbaomdciaaGreatDoor
open Go Go.RowKit
attribute [local irreducible] JL JC JQ JO LO PO JA JX Ct
set_option maxRecDepth 8000 in
theorem L_TxHolds (pa : Option Addr) (pc : Nat) (p : Str) :
   Ct Tryz.prog 10 [.slice pa p.length pc] [] (fun w => Sees w (.slice pa p.length pc) 1 p.length (p.map encB) ∧ HexOk w) (fun v A' => v = .bool true ∧ A' = []) := by
 refine Ct.introL Tryz.func10 rfl Tryz.ntmps10 (lb rfl) fun w0 hpre hlow => ?_
 have hs_pa : Sees w0 _ _ _ _ := hpre.1
 refine go ?_
 refine jN [] (N_big pa pc p) ?_
 refine go ?_
 by_cases h_1 : 1048576 < ((p.length : Nat) : Int)
 · refine go ?_
   exact jJ [] ⟨rfl, rfl⟩
 refine go ?_
 refine jA [] (D_dRestOn pa pc p (by omega)) (hpre := fun w hw => hw.seeOut_ hs_pa nM) ?_
 rintro _ _ ⟨l_2a, l_2c, l_2, l_4a, l_4c, l_4, l_6a, l_6c, l_6, f_3, f_5, f_7, rfl, rfl⟩
 have hO1_l_2 := f_3.1.1
 have hO1_l_4 := f_5.1.1
 refine go ?_
 refine jA [] (D_dPlaces pa pc p (by omega)) (hpre := fun w hw => hw.seeOut_ hs_pa nM) ?_
 rintro _ _ ⟨l_9a, l_9c, l_9, f_10, rfl, rfl⟩
 refine go ?_
 refine jA [] (Y_iTxNew 3 2 1) ?_
 rintro _ _ ⟨z_12, hz_13, rfl, rfl⟩
 refine jG xzc fun b_14 => ?_
 refine jD 0 (xc z_12) ?_
 refine go ?_
 refine jN [] (Y_named 1 [113]) ?_
 refine jK (je (ps := [(0, iv 22), (5, str [97])]) (cs := [iv 22, str [], str [], iv 0, iv 0, str [97]]) rfl (by kernel_rfl)) <| jK (je (ps := [(0, iv 7), (1, str [120]), (5, str [97, 98, 99])]) (cs := [iv 7, str [120], str [], iv 0, iv 0, str [97, 98, 99]]) rfl (by kernel_rfl)) <| jK (je (ps := [(0, iv 12)]) (cs := [iv 12, str [], str [], iv 0, iv 0, str []]) rfl (by kernel_rfl)) <| jK (je (ps := [(0, iv 9)]) (cs := [iv 9, str [], str [], iv 0, iv 0, str []]) rfl (by kernel_rfl)) ?_
 refine jF rfl (jR (ps := [(0, .agg #[iv 1, str [113], str [], iv 0, iv 0, str []]), (1, .agg #[iv 22, str [], str [], iv 0, iv 0, str [97]]), (2, .agg #[iv 7, str [120], str [], iv 0, iv 0, str [97, 98, 99]]), (3, .agg #[iv 12, str [], str [], iv 0, iv 0, str []]), (4, .agg #[iv 9, str [], str [], iv 0, iv 0, str []])]) (cur := #[iv 1, str [113], str [], iv 0, iv 0, str [], iv 22, str [], str [], iv 0, iv 0, str [97], iv 7, str [120], str [], iv 0, iv 0, str [97, 98, 99], iv 12, str [], str [], iv 0, iv 0, str [], iv 9, str [], str [], iv 0, iv 0, str []]) kf kX Tryz.zeroValue43 rfl (by kernel_rfl) (by decide) (by decide)) ?_
 rintro _ _ ⟨a_15, rfl, rfl⟩
 refine go ?_
 have hcok : ∀ i, i < 5 → (([(⟨1, [113], [], 0, 0, []⟩ : CL), (⟨22, [], [], 0, 0, [97]⟩ : CL), (⟨7, [120], [], 0, 0, [97, 98, 99]⟩ : CL), (⟨12, [], [], 0, 0, []⟩ : CL), (⟨9, [], [], 0, 0, []⟩ : CL)] : List CL).getD i k0).ok 1048576 := fun i hi => by rcases (by omega : i = 0 ∨ i = 1 ∨ i = 2 ∨ i = 3 ∨ i = 4) with rfl | rfl | rfl | rfl | rfl <;> exact ⟨by decide, by decide, by decide, by decide, by decide, by decide⟩
 refine jL (fun k_ e_ L_ => ∃ i_ : Nat, ∃ z : TX, (i_ ≤ 4) ∧ (hInv l_2 1 i_ z.t) ∧ EL e_ [(2, .bool false), (3, .slice l_2a l_2.length l_2c), (4, .slice l_4a l_4.length l_4c), (6, .slice l_9a l_9.length l_9c), (7, .pointer (some ⟨b_14, 0, none⟩)), (8, .slice a_15 5 5), (9, nv i_)] ∧ L_ = [Res.row (.slice a_15 5 5) 43 6 5 (([(⟨1, [113], [], 0, 0, []⟩ : CL), (⟨22, [], [], 0, 0, [97]⟩ : CL), (⟨7, [120], [], 0, 0, [97, 98, 99]⟩ : CL), (⟨12, [], [], 0, 0, []⟩ : CL), (⟨9, [], [], 0, 0, []⟩ : CL)] : List CL).flatMap encK), bk b_14 35 (xc z), Res.rows (rdsX z), rI l_9a l_9c l_9, rC l_2a l_2c l_2, rC l_4a l_4c l_4, Res.row (.slice l_6a l_6.length l_6c) 45 7 l_6.length (l_6.flatMap encP)] ∧ k_ = 4 - i_) _ ⟨0, z_12, by omega, (by rw [hz_13]; exact hInv.new (by decide)), EL.go, rfl, rfl⟩ ?_
 rintro _ _ _ ⟨i_, z, hi, hI, ⟨_, rfl⟩, rfl, rfl⟩
 obtain ⟨l_, hok, hl_, hB⟩ := id hI
 have hBn := hB.n
 have hBr := hB.rl
 have hBw := hB.wl
 refine go ?_
 refine jo fun hst => ?_
 obtain ⟨hr_16, hr_16b, -⟩ := row_some 3 rfl (by omega) hst
 refine jK (PO.indexAddrV (i := 0) kL kS hr_16 hr_16b rfl rfl (by omega)) <| jU (jr 3 (v := iv (l_9.getD 0 0)) rfl rfl kR (atI (by omega))) ?_
 obtain ⟨kk_17, hkk_18⟩ : ∃ kk_17 : Nat, l_9.getD 0 0 = ((kk_17 : Nat) : Int) := ⟨(l_9.getD 0 0).toNat, by have hlo_ := f_10.2 _ (getD_mem (d := 0) (show 0 < l_9.length by have hq_ := f_10.1; omega)); omega⟩
 first | refine kA 31 (v := nv kk_17) (congrArg (Value.int .i64) hkk_18) ?_ | refine jv 31 (v := nv kk_17) (congrArg (Value.int .i64) hkk_18) ?_ | refine kB 31 (v := nv kk_17) (congrArg (Value.int .i64) hkk_18) ?_ | refine kC 31 (v := nv kk_17) (congrArg (Value.int .i64) hkk_18) ?_
 refine go ?_
 by_cases h_19 : ((i_ : Nat) : Int) < ((1 + (kk_17 % 4) : Nat) : Int)
 · refine go ?_
   refine jH [1] 15 ?_
   refine go ?_
   refine jB (i := 7) ?_
   refine ja rfl rfl (jm (jr 3 (v := iv (l_9.getD (i_ + 1) 0)) rfl rfl kR (atI (by omega)))) ?_
   rintro _ _ ⟨rfl, rfl⟩
   refine ⟨all_go, ?_⟩
   obtain ⟨kk_20, hkk_21⟩ : ∃ kk_20 : Nat, l_9.getD (i_ + 1) 0 = ((kk_20 : Nat) : Int) := ⟨(l_9.getD (i_ + 1) 0).toNat, by have hlo_ := f_10.2 _ (getD_mem (d := 0) (show i_ + 1 < l_9.length by have hq_ := f_10.1; omega)); omega⟩
   first | refine kA 45 (v := nv kk_20) (congrArg (Value.int .i64) hkk_21) ?_ | refine jv 45 (v := nv kk_20) (congrArg (Value.int .i64) hkk_21) ?_ | refine kB 45 (v := nv kk_20) (congrArg (Value.int .i64) hkk_21) ?_ | refine kC 45 (v := nv kk_20) (congrArg (Value.int .i64) hkk_21) ?_
   refine go ?_
   refine JA.facts fun hst => ?_
   obtain ⟨hr_22, hr_22b, -⟩ := row_some 0 rfl (by omega) hst
   refine go ?_
   refine jB (i := 10) ?_
   refine ja rfl rfl (jm (LO.loadRK 0 (vs := [iv (([(⟨1, [113], [], 0, 0, []⟩ : CL), (⟨22, [], [], 0, 0, [97]⟩ : CL), (⟨7, [120], [], 0, 0, [97, 98, 99]⟩ : CL), (⟨12, [], [], 0, 0, []⟩ : CL), (⟨9, [], [], 0, 0, []⟩ : CL)] : List CL).getD (kk_20 % 5) k0).kind, str (([(⟨1, [113], [], 0, 0, []⟩ : CL), (⟨22, [], [], 0, 0, [97]⟩ : CL), (⟨7, [120], [], 0, 0, [97, 98, 99]⟩ : CL), (⟨12, [], [], 0, 0, []⟩ : CL), (⟨9, [], [], 0, 0, []⟩ : CL)] : List CL).getD (kk_20 % 5) k0).name, str (([(⟨1, [113], [], 0, 0, []⟩ : CL), (⟨22, [], [], 0, 0, [97]⟩ : CL), (⟨7, [120], [], 0, 0, [97, 98, 99]⟩ : CL), (⟨12, [], [], 0, 0, []⟩ : CL), (⟨9, [], [], 0, 0, []⟩ : CL)] : List CL).getD (kk_20 % 5) k0).to_, iv (([(⟨1, [113], [], 0, 0, []⟩ : CL), (⟨22, [], [], 0, 0, [97]⟩ : CL), (⟨7, [120], [], 0, 0, [97, 98, 99]⟩ : CL), (⟨12, [], [], 0, 0, []⟩ : CL), (⟨9, [], [], 0, 0, []⟩ : CL)] : List CL).getD (kk_20 % 5) k0).a, iv (([(⟨1, [113], [], 0, 0, []⟩ : CL), (⟨22, [], [], 0, 0, [97]⟩ : CL), (⟨7, [120], [], 0, 0, [97, 98, 99]⟩ : CL), (⟨12, [], [], 0, 0, []⟩ : CL), (⟨9, [], [], 0, 0, []⟩ : CL)] : List CL).getD (kk_20 % 5) k0).b, str (([(⟨1, [113], [], 0, 0, []⟩ : CL), (⟨22, [], [], 0, 0, [97]⟩ : CL), (⟨7, [120], [], 0, 0, [97, 98, 99]⟩ : CL), (⟨12, [], [], 0, 0, []⟩ : CL), (⟨9, [], [], 0, 0, []⟩ : CL)] : List CL).getD (kk_20 % 5) k0).text]) rfl rfl ki kX (flat_take encK_len k0 ([(⟨1, [113], [], 0, 0, []⟩ : CL), (⟨22, [], [], 0, 0, [97]⟩ : CL), (⟨7, [120], [], 0, 0, [97, 98, 99]⟩ : CL), (⟨12, [], [], 0, 0, []⟩ : CL), (⟨9, [], [], 0, 0, []⟩ : CL)] : List CL) (kk_20 % 5) (by (try simp only [List.length_cons, List.length_nil]); omega)) rfl (by decide))) ?_
   rintro _ _ ⟨rfl, rfl⟩
   refine ⟨all_go, ?_⟩
   refine jB (i := 11) ?_
   refine jI [] (Y_iTxAsk z (hB.lim (by omega) (by omega) (by decide)) l_2a l_2c l_2 10935 f_3.1 (by omega) (hB.okT hok (by omega)) (askG (fun h_ => growR (by omega))) (askT (fun h_ => growTR (by omega))) 20000000 (askB (fun h_ => growR (by omega))) (([(⟨1, [113], [], 0, 0, []⟩ : CL), (⟨22, [], [], 0, 0, [97]⟩ : CL), (⟨7, [120], [], 0, 0, [97, 98, 99]⟩ : CL), (⟨12, [], [], 0, 0, []⟩ : CL), (⟨9, [], [], 0, 0, []⟩ : CL)] : List CL).getD (kk_20 % 5) k0) (hcok _ (Nat.mod_lt _ (by decide)))) (hpre := fun w hw => ⟨hw.see (i := 4) rfl, hw.seeRows 2 rfl, hw.hex hlow hpre.2⟩) ?_
   rintro _ _ ⟨z_28, A_29, e_30, ha_31, hb_32, rfl, rfl⟩
   refine go ?_
   refine jB (i := 15) ?_
   refine jS 2 (xc z_28) ?_
   refine go ?_
   have hst := hB.hstep hok hl_ (by omega) (hcok _ (Nat.mod_lt _ (by decide))) e_30 hb_32
   obtain ⟨l2_, hok2, hl2_, hB2⟩ := id hst
   refine go ?_
   exact jP [1, 1, 0, 1, 1, 1, 1] ⟨i_ + 1, z_28, by omega, hst, EL.go, rfl, rfl⟩
 refine go ?_
 have hO_ := (f_3.1).1
 have hO2_ := (f_5.1).1
 have hrd_ := hB.okR hok f_3.1 (fun _ h_ => by cases h_)
 have hrd_S := hrd_.okS (by omega)
 have hwr_ := hB.okW hok f_3.1 (fun _ h_ => by cases h_)
 have hwr_S := hwr_.okS (by omega)
 have hR := hB.right
 have hLd := hB.laid f_3.2
 refine go ?_
 refine jN [] (Y_iRight z (hB.lim (by omega) (by omega) (by decide)) l_2a l_2c l_2 10935 f_3.1 (by omega) (hB.okT hok (by omega)) (Nat.le_trans (growH (by omega) (by omega)) (by decide)) (Nat.le_trans (growTH (by omega) (by omega)) (by decide))) (hpre := fun w hw => ⟨hw.see (i := 4) rfl, hw.seeRows 2 rfl, hw.hex hlow hpre.2⟩) ?_
 refine go ?_
 refine jA [] (Y_iTxLaid z (hB.lim (by omega) (by omega) (by decide)) l_2a l_2c l_2 10935 f_3.1 (by omega) (hB.okT hok (by omega)) (Nat.le_trans (growH (by omega) (by omega)) (by decide)) (Nat.le_trans (growTH (by omega) (by omega)) (by decide)) hwr_) (hpre := fun w hw => ⟨hw.see (i := 4) rfl, hw.seeRows 2 rfl, hw.hex hlow hpre.2⟩) ?_
 rintro _ _ ⟨a_33, c_34, hO_37, rfl, rfl⟩
 have hll_38 := laidW_len l_2 (viewA l_2 z.t) z.t.wr
 refine go ?_
 refine jN [] (Y_onlyLaid l_2a l_2c l_2 (by omega) (keys3 f_3.1) a_33 c_34 (laidW l_2 (viewA l_2 z.t) z.t.wr) (by omega) (keys3 (laidW_ok f_3.1 (Nat.le_refl _))) z.x.a2 z.x.c2 z.t.rd z.x.a3 z.x.c3 z.t.wr hwr_S (by omega)) (hpre := fun w hw => ⟨hw.see (i := 5) rfl, hw.see (i := 0) rfl, (seesX (hw.seeRows 3 rfl)).2.2.1, (seesX (hw.seeRows 3 rfl)).2.2.2.1⟩) ?_
 refine go ?_
 refine jW rfl rfl rfl (cB (cN (only_laid f_3.2 (f_3.2.view z.t) _))) (jm (LO.pure (PO.move (v := .slice l_2a l_2.length l_2c) rfl))) ?_
 rintro _ _ ⟨rfl, rfl⟩
 refine jW rfl rfl rfl (cB (cN (only_laid f_3.2 (f_3.2.view z.t) _))) (jO [] Tryz.call64 rfl (Y_specStoreOk l_2a l_2c l_2 (f_3.1.full (by decide))) rfl (fun w hw => hw.see (i := 5) rfl)) ?_
 rintro _ _ ⟨_, ⟨rfl, rfl⟩, rfl⟩
 refine jW rfl rfl rfl (cB (cN (only_laid f_3.2 (f_3.2.view z.t) _))) (jm (LO.pure (PO.move (v := .bool (storeOk l_2)) rfl))) ?_
 rintro _ _ ⟨rfl, rfl⟩
 rcases Bool.eq_false_or_eq_true (storeOk l_2) with h_39 | h_39
 · refine go ?_
   refine jW rfl rfl rfl (cB h_39) (jO [] Tryz.call16 rfl (Y_sTxView z (hB.lim (by omega) (by omega) (by decide)) l_2a l_2c l_2 10935 f_3.1 (by omega) (hB.okT hok (by omega)) (Nat.le_trans (growH (by omega) (by omega)) (by decide)) (Nat.le_trans (growTH (by omega) (by omega)) (by decide))) rfl (fun w hw => ⟨hw.see (i := 5) rfl, hw.seeRows 3 rfl⟩)) ?_
   rintro _ _ ⟨_, ⟨a_40, c_41, v_42, e_43, hO_44, rfl, rfl⟩, rfl⟩
   have hO1_v_42 : v_42.length ≤ 28000000 := Nat.le_trans (hO_44).1 (Nat.le_trans (growH (by omega) (by omega)) (by decide))
   refine jW rfl rfl rfl (cB h_39) (jO [] Tryz.call18 rfl (C_sameCells a_33 a_40 c_34 c_41 (laidW l_2 (viewA l_2 z.t) z.t.wr) v_42 (by omega)) rfl (fun w hw => ⟨hw.see (i := 1) rfl, hw.see (i := 0) rfl⟩)) ?_
   rintro _ _ ⟨_, ⟨rfl, rfl⟩, rfl⟩
   refine go ?_
   refine jW rfl rfl rfl (cB (cN (only_laid f_3.2 (f_3.2.view z.t) _))) (jm (LO.pure (PO.pickT (v := .bool (!(decide ((laidW l_2 (viewA l_2 z.t) z.t.wr) = v_42)))) (cB h_39) rfl))) ?_
   rintro _ _ ⟨rfl, rfl⟩
   refine jK (PO.pickF (v := .bool (!(decide ((laidW l_2 (viewA l_2 z.t) z.t.wr) = v_42)))) (cB (cN (only_laid f_3.2 (f_3.2.view z.t) _))) rfl) ?_
   refine go ?_
   have h_45 : (laidW l_2 (viewA l_2 z.t) z.t.wr) = v_42 := (by rw [hLd, view_eq]; exact e_43)
   refine go ?_
   refine jN [] (Y_agreeOn l_2a l_2c l_2 (by omega) (keys3 f_3.1) l_4a l_4c l_4 (by omega) (keys3 f_5.1) z.x.a2 z.x.c2 z.t.rd hrd_S (by omega)) (hpre := fun w hw => ⟨hw.see (i := 6) rfl, hw.see (i := 7) rfl, (seesX (hw.seeRows 4 rfl)).2.2.1⟩) ?_
   refine go ?_
   rcases Bool.eq_false_or_eq_true (agreeB l_2 l_4 z.t.rd) with h_46 | h_46
   · refine go ?_
     refine jH [3] 12 ?_
     refine go ?_
     refine jB (i := 2) ?_
     refine jI [] (Y_iRight z (hB.lim (by omega) (by omega) (by decide)) l_4a l_4c l_4 10938 f_5.1 (by omega) (hB.okT hok (by omega)) (Nat.le_trans (growH (by omega) (by omega)) (by decide)) (Nat.le_trans (growTH (by omega) (by omega)) (by decide))) (hpre := fun w hw => ⟨hw.see (i := 7) rfl, hw.seeRows 4 rfl, hw.hex hlow hpre.2⟩) ?_
     rintro _ _ ⟨rfl, rfl⟩
     refine go ?_
     refine jq 4 rfl (by kernel_rfl) (NP.th NP.body) (by kernel_rfl) (by kernel_rfl) rfl rfl rfl (cB (right_agree f_3.2 f_5.2 hR h_46)) (PO.move (v := .slice l_4a l_4.length l_4c) rfl) <| jq 5 rfl (by kernel_rfl) (NP.th NP.body) (by kernel_rfl) (by kernel_rfl) rfl rfl rfl (cB (right_agree f_3.2 f_5.2 hR h_46)) (PO.move (v := .slice l_4a l_4.length l_4c) rfl) <| kG 6 rfl (by kernel_rfl) (NP.th NP.body) (by kernel_rfl) (by kernel_rfl) (by kernel_rfl) rfl rfl rfl (cB (right_agree f_3.2 f_5.2 hR h_46)) (jl 0 (vs := (xc z)) rfl rfl kT kQ rfl rfl) <| jq 8 rfl (by kernel_rfl) (NP.th NP.body) (by kernel_rfl) (by kernel_rfl) rfl rfl rfl (cB (right_agree f_3.2 f_5.2 hR h_46)) (PO.fieldAddr fo35_6 rfl) <| kG 9 rfl (by kernel_rfl) (NP.th NP.body) (by kernel_rfl) (by kernel_rfl) (by kernel_rfl) rfl rfl rfl (cB (right_agree f_3.2 f_5.2 hR h_46)) (jl 0 (vs := [.slice z.x.a2 z.t.rd.length z.x.c2, .slice z.x.a3 z.t.wr.length z.x.c3]) rfl rfl kt ku rfl rfl) ?_
     refine jB (i := 7) ?_
     refine jn rfl rfl rfl rfl (cB (right_agree f_3.2 f_5.2 hR h_46)) (jO [] Tryz.call31 rfl (Y_iTxLaid z (hB.lim (by omega) (by omega) (by decide)) l_4a l_4c l_4 10938 f_5.1 (by omega) (hB.okT hok (by omega)) (Nat.le_trans (growH (by omega) (by omega)) (by decide)) (Nat.le_trans (growTH (by omega) (by omega)) (by decide)) hwr_) rfl (fun w hw => ⟨hw.see (i := 7) rfl, hw.seeRows 4 rfl, hw.hex hlow hpre.2⟩)) ?_
     rintro _ _ ⟨_, ⟨a_65, c_66, hO_69, rfl, rfl⟩, rfl⟩
     have hll_70 := laidW_len l_4 (viewA l_4 z.t) z.t.wr
     refine ⟨all_go, ?_⟩
     refine jB (i := 10) ?_
     refine jn rfl rfl rfl rfl (cB (right_agree f_3.2 f_5.2 hR h_46)) (jO [] Tryz.call63 rfl (Y_onlyLaid l_4a l_4c l_4 (by omega) (keys3 f_5.1) a_65 c_66 (laidW l_4 (viewA l_4 z.t) z.t.wr) (by omega) (keys3 (laidW_ok f_5.1 (Nat.le_refl _))) z.x.a2 z.x.c2 z.t.rd z.x.a3 z.x.c3 z.t.wr hwr_S (by omega)) rfl (fun w hw => ⟨hw.see (i := 8) rfl, hw.see (i := 0) rfl, (seesX (hw.seeRows 5 rfl)).2.2.1, (seesX (hw.seeRows 5 rfl)).2.2.2.1⟩)) ?_
     rintro _ _ ⟨_, ⟨rfl, rfl⟩, rfl⟩
     refine ⟨all_go, ?_⟩
     refine jd 11 rfl (PO.pickT (v := .bool (coversB z.t.wr (diffK l_4 (laidW l_4 (viewA l_4 z.t) z.t.wr)))) (cB (right_agree f_3.2 f_5.2 hR h_46)) rfl) ?_
     refine go ?_
     refine jv 2 (v := .bool true) (cB (only_laid f_5.2 (f_5.2.view z.t) _)) ?_
     exact jJ [] ⟨rfl, rfl⟩
   refine go ?_
   exact jJ [] ⟨rfl, rfl⟩
 refine go ?_
 refine jW rfl rfl rfl (cB (cN (only_laid f_3.2 (f_3.2.view z.t) _))) (jm (LO.pure (PO.pickF (v := .bool false) (cB h_39) rfl))) ?_
 rintro _ _ ⟨rfl, rfl⟩
 refine jK (PO.pickF (v := .bool false) (cB (cN (only_laid f_3.2 (f_3.2.view z.t) _))) rfl) ?_
 refine go ?_
 refine jN [] (Y_agreeOn l_2a l_2c l_2 (by omega) (keys3 f_3.1) l_4a l_4c l_4 (by omega) (keys3 f_5.1) z.x.a2 z.x.c2 z.t.rd hrd_S (by omega)) (hpre := fun w hw => ⟨hw.see (i := 5) rfl, hw.see (i := 6) rfl, (seesX (hw.seeRows 3 rfl)).2.2.1⟩) ?_
 refine go ?_
 rcases Bool.eq_false_or_eq_true (agreeB l_2 l_4 z.t.rd) with h_71 | h_71
 · refine go ?_
   refine jH [2] 12 ?_
   refine go ?_
   refine jB (i := 2) ?_
   refine jI [] (Y_iRight z (hB.lim (by omega) (by omega) (by decide)) l_4a l_4c l_4 10938 f_5.1 (by omega) (hB.okT hok (by omega)) (Nat.le_trans (growH (by omega) (by omega)) (by decide)) (Nat.le_trans (growTH (by omega) (by omega)) (by decide))) (hpre := fun w hw => ⟨hw.see (i := 6) rfl, hw.seeRows 3 rfl, hw.hex hlow hpre.2⟩) ?_
   rintro _ _ ⟨rfl, rfl⟩
   refine go ?_
   refine jq 4 rfl (by kernel_rfl) (NP.th NP.body) (by kernel_rfl) (by kernel_rfl) rfl rfl rfl (cB (right_agree f_3.2 f_5.2 hR h_71)) (PO.move (v := .slice l_4a l_4.length l_4c) rfl) <| jq 5 rfl (by kernel_rfl) (NP.th NP.body) (by kernel_rfl) (by kernel_rfl) rfl rfl rfl (cB (right_agree f_3.2 f_5.2 hR h_71)) (PO.move (v := .slice l_4a l_4.length l_4c) rfl) <| kG 6 rfl (by kernel_rfl) (NP.th NP.body) (by kernel_rfl) (by kernel_rfl) (by kernel_rfl) rfl rfl rfl (cB (right_agree f_3.2 f_5.2 hR h_71)) (jl 0 (vs := (xc z)) rfl rfl kT kQ rfl rfl) <| jq 8 rfl (by kernel_rfl) (NP.th NP.body) (by kernel_rfl) (by kernel_rfl) rfl rfl rfl (cB (right_agree f_3.2 f_5.2 hR h_71)) (PO.fieldAddr fo35_6 rfl) <| kG 9 rfl (by kernel_rfl) (NP.th NP.body) (by kernel_rfl) (by kernel_rfl) (by kernel_rfl) rfl rfl rfl (cB (right_agree f_3.2 f_5.2 hR h_71)) (jl 0 (vs := [.slice z.x.a2 z.t.rd.length z.x.c2, .slice z.x.a3 z.t.wr.length z.x.c3]) rfl rfl kt ku rfl rfl) ?_
   refine jB (i := 7) ?_
   refine jn rfl rfl rfl rfl (cB (right_agree f_3.2 f_5.2 hR h_71)) (jO [] Tryz.call31 rfl (Y_iTxLaid z (hB.lim (by omega) (by omega) (by decide)) l_4a l_4c l_4 10938 f_5.1 (by omega) (hB.okT hok (by omega)) (Nat.le_trans (growH (by omega) (by omega)) (by decide)) (Nat.le_trans (growTH (by omega) (by omega)) (by decide)) hwr_) rfl (fun w hw => ⟨hw.see (i := 6) rfl, hw.seeRows 3 rfl, hw.hex hlow hpre.2⟩)) ?_
   rintro _ _ ⟨_, ⟨a_90, c_91, hO_94, rfl, rfl⟩, rfl⟩
   have hll_95 := laidW_len l_4 (viewA l_4 z.t) z.t.wr
   refine ⟨all_go, ?_⟩
   refine jB (i := 10) ?_
   refine jn rfl rfl rfl rfl (cB (right_agree f_3.2 f_5.2 hR h_71)) (jO [] Tryz.call63 rfl (Y_onlyLaid l_4a l_4c l_4 (by omega) (keys3 f_5.1) a_90 c_91 (laidW l_4 (viewA l_4 z.t) z.t.wr) (by omega) (keys3 (laidW_ok f_5.1 (Nat.le_refl _))) z.x.a2 z.x.c2 z.t.rd z.x.a3 z.x.c3 z.t.wr hwr_S (by omega)) rfl (fun w hw => ⟨hw.see (i := 7) rfl, hw.see (i := 0) rfl, (seesX (hw.seeRows 4 rfl)).2.2.1, (seesX (hw.seeRows 4 rfl)).2.2.2.1⟩)) ?_
   rintro _ _ ⟨_, ⟨rfl, rfl⟩, rfl⟩
   refine ⟨all_go, ?_⟩
   refine jd 11 rfl (PO.pickT (v := .bool (coversB z.t.wr (diffK l_4 (laidW l_4 (viewA l_4 z.t) z.t.wr)))) (cB (right_agree f_3.2 f_5.2 hR h_71)) rfl) ?_
   refine go ?_
   refine jv 2 (v := .bool true) (cB (only_laid f_5.2 (f_5.2.view z.t) _)) ?_
   exact jJ [] ⟨rfl, rfl⟩
 refine go ?_
 exact jJ [] ⟨rfl, rfl⟩
end Go.Proofs.YthlfmbbaomdciaaGreatDoor
