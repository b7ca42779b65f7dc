/-
Texts of the walk, joined: what each one proves stands at its theorems.
-/
import Derived.Test.YthlfmbbaomdciaaGreatDoorXTxIsRunS78RUN
set_option linter.unusedSimpArgs false
set_option linter.unusedVariables false
set_option linter.unnecessarySimpa false
set_option maxHeartbeats 4000000
set_option maxRecDepth 4000
namespace Go.Proofs.YthlfmbbaomdciaaGreatDoor
open Go Go.RowKit
attribute [local irreducible] JL JC JQ JO LO PO JA JX Ct
set_option maxRecDepth 8000 in
theorem L_TxIsRun (pa : Option Addr) (pc : Nat) (p : Str) :
   Ct Tryz.prog 8 [.slice pa p.length pc] [] (fun w => Sees w (.slice pa p.length pc) 1 p.length (p.map encB) ∧ HexOk w) (fun v A' => v = .bool true ∧ A' = []) := by
 refine Ct.introL Tryz.func8 rfl Tryz.ntmps8 (lb rfl) fun w0 hpre hlow => ?_
 have hs_pa : Sees w0 _ _ _ _ := hpre.1
 refine go ?_
 refine jN [] (N_big pa pc p) ?_
 refine go ?_
 by_cases h_1 : 1048576 < ((p.length : Nat) : Int)
 · refine go ?_
   exact jJ [] ⟨rfl, rfl⟩
 refine go ?_
 refine jA [] (D_DrawSerialRun pa pc p (by omega)) (hpre := fun w hw => hw.seeOut_ hs_pa nM) ?_
 rintro _ _ ⟨l_2a, l_2c, l_2, l_4a, l_4c, l_4, f_3, f_5, rfl, rfl⟩
 have hO1_l_2 := f_3.1.1
 refine go ?_
 refine jA [] (Y_iTxNew 1 1 1) ?_
 rintro _ _ ⟨z_7, hz_8, rfl, rfl⟩
 refine jG xzc fun b_9 => ?_
 refine jD 0 (xc z_7) ?_
 refine go ?_
 refine jF rfl (jR (ps := []) (cur := #[]) kh ks Tryz.zeroValue45 rfl (by kernel_rfl) (by decide) (by decide)) ?_
 rintro _ _ ⟨a_10, rfl, rfl⟩
 refine go ?_
 obtain ⟨hok, hll⟩ := id f_5
 refine jL (fun k_ e_ L_ => ∃ i_ : Nat, ∃ z : TX, ∃ oa : Option Addr, ∃ oc : Nat, ∃ o_ : List SP, (i_ ≤ l_4.length) ∧ (bInv l_2 l_4 [] [] [] 1 i_ i_ z.t) ∧ (o_.length = i_) ∧ (o_ = (l_4.take i_).map fun p => (⟨1, p.call⟩ : SP)) ∧ EL e_ [(2, .bool false), (3, .slice l_2a l_2.length l_2c), (4, .slice l_4a l_4.length l_4c), (5, .pointer (some ⟨b_9, 0, none⟩)), (6, .slice oa o_.length oc), (7, nv i_)] ∧ L_ = [Res.row (.slice oa o_.length oc) 45 7 o_.length (o_.flatMap encP), bk b_9 35 (xc z), Res.rows (rdsX z), rC l_2a l_2c l_2, Res.row (.slice l_4a l_4.length l_4c) 45 7 l_4.length (l_4.flatMap encP)] ∧ k_ = l_4.length - i_) _ ⟨0, z_7, a_10, 0, ([] : List SP), by omega, (by rw [hz_8]; exact bInv.fresh), rfl, rfl, EL.go, rfl, rfl⟩ ?_
 rintro _ _ _ ⟨i_, z, oa, oc, o_, hi, hI, hol, ho, ⟨_, rfl⟩, rfl, rfl⟩
 have hIn := hI.n
 have hIr := hI.rl
 have hIw := hI.wl
 refine go ?_
 by_cases h_11 : ((i_ : Nat) : Int) < ((l_4.length : Nat) : Int)
 · refine go ?_
   have hok_ := hok i_ (by omega)
   refine jH [1] 11 ?_
   refine go ?_
   refine JA.facts fun hst => ?_
   obtain ⟨hr_12, hr_12b, -⟩ := row_some 4 rfl (by omega) hst
   refine go ?_
   refine jB (i := 6) ?_
   refine ja rfl rfl (jm (LO.loadRK 4 (vs := [iv (l_4.getD i_ p0_).call.kind, str (l_4.getD i_ p0_).call.name, str (l_4.getD i_ p0_).call.to_, iv (l_4.getD i_ p0_).call.a, iv (l_4.getD i_ p0_).call.b, str (l_4.getD i_ p0_).call.text]) rfl rfl ki kX (flat_part encP_len p0_ l_4 i_ 1 6 (by omega) (by decide)) rfl (by decide))) ?_
   rintro _ _ ⟨rfl, rfl⟩
   refine ⟨all_go, ?_⟩
   refine jB (i := 7) ?_
   refine jI [] (Y_iTxAsk z (hI.lim (by omega) (by omega) (by decide)) l_2a l_2c l_2 10935 f_3.1 (by omega) (hI.okT hok (by omega)) (askG (fun h_ => growR (by omega))) (askT (fun h_ => growTR (by omega))) 20000000 (askB (fun h_ => growR (by omega))) (l_4.getD i_ p0_).call hok_.1) (hpre := fun w hw => ⟨hw.see (i := 3) rfl, hw.seeRows 2 rfl, hw.hex hlow hpre.2⟩) ?_
   rintro _ _ ⟨z_18, A_19, e_20, ha_21, hb_22, rfl, rfl⟩
   refine go ?_
   refine jB (i := 11) ?_
   refine jS 2 (xc z_18) ?_
   refine go ?_
   refine jU (LO.loadRK 5 (vs := [iv (l_4.getD i_ p0_).call.kind, str (l_4.getD i_ p0_).call.name, str (l_4.getD i_ p0_).call.to_, iv (l_4.getD i_ p0_).call.a, iv (l_4.getD i_ p0_).call.b, str (l_4.getD i_ p0_).call.text]) rfl rfl ki kX (flat_part encP_len p0_ l_4 i_ 1 6 (by omega) (by decide)) rfl (by decide)) <| jK (je (ps := [(0, iv 1), (1, .agg #[iv (l_4.getD i_ p0_).call.kind, str (l_4.getD i_ p0_).call.name, str (l_4.getD i_ p0_).call.to_, iv (l_4.getD i_ p0_).call.a, iv (l_4.getD i_ p0_).call.b, str (l_4.getD i_ p0_).call.text])]) (cs := [iv 1, iv (l_4.getD i_ p0_).call.kind, str (l_4.getD i_ p0_).call.name, str (l_4.getD i_ p0_).call.to_, iv (l_4.getD i_ p0_).call.a, iv (l_4.getD i_ p0_).call.b, str (l_4.getD i_ p0_).call.text]) rfl (by kernel_rfl)) ?_
   refine jF rfl (jR (ps := [(0, .agg #[iv 1, iv (l_4.getD i_ p0_).call.kind, str (l_4.getD i_ p0_).call.name, str (l_4.getD i_ p0_).call.to_, iv (l_4.getD i_ p0_).call.a, iv (l_4.getD i_ p0_).call.b, str (l_4.getD i_ p0_).call.text])]) (cur := #[iv 1, iv (l_4.getD i_ p0_).call.kind, str (l_4.getD i_ p0_).call.name, str (l_4.getD i_ p0_).call.to_, iv (l_4.getD i_ p0_).call.a, iv (l_4.getD i_ p0_).call.b, str (l_4.getD i_ p0_).call.text]) kh ks Tryz.zeroValue45 rfl (by kernel_rfl) (by decide) (by decide)) ?_
   rintro _ _ ⟨a_23, rfl, rfl⟩
   refine jF rfl (jX 2 (q := 1) (news := ([(⟨1, (l_4.getD i_ p0_).call⟩ : SP)] : List SP).flatMap encP) (n' := (o_ ++ ([(⟨1, (l_4.getD i_ p0_).call⟩ : SP)] : List SP)).length) (cs' := (o_ ++ ([(⟨1, (l_4.getD i_ p0_).call⟩ : SP)] : List SP)).flatMap encP) rfl kh kh Tryz.typeInfo45 rfl (by' := 80) rfl rfl rfl rfl rfl (fun w hw => Src.sees (hw.see (i := 0) rfl) (oneP _)) (by (try simp only [LE]); omega) (by (try simp only [LE]); omega) (by simp only [List.length_append, List.length_take, List.length_drop, List.length_cons, List.length_nil] <;> first | rfl | omega) (by simp only [List.flatMap_append])) ?_
   rintro _ _ ⟨a_24, c_25, rfl, rfl⟩
   refine go ?_
   have hst := hI.step (by omega) (by omega) srt.nil srt.nil e_20 hb_22
   refine go ?_
   exact jP [2, 2, 1, 2, 2] ⟨i_ + 1, z_18, a_24, c_25, (o_ ++ ([(⟨1, (l_4.getD i_ p0_).call⟩ : SP)] : List SP)), by omega, hst, (by rw [List.length_append, hol]; rfl), (by rw [take_at (getD_some (d := p0_) (show i_ < l_4.length by omega)), List.map_append, ← ho]; rfl), EL.go, rfl, rfl⟩
 refine go ?_
 obtain rfl : i_ = l_4.length := by omega
 have hso : okSteps o_ := by rw [ho, ← hI.steps]; exact okSteps_of (hI.okT hok (by omega))
 have hO_ := (f_3.1).1
 refine go ?_
 refine jA [] (D_serialRun l_2a l_2c l_2 oa oc o_ (by have hl_ := (f_3.1).1; omega) (by omega) f_3.1 (by omega) hso (grow 10935) (run_grow f_3.1.1 _) (fun j hj => Nat.le_trans (grow_le 10935 hj) (growS (by omega))) (growTS (by omega))) (hpre := fun w hw => ⟨hw.see (i := 3) rfl, hw.see (i := 0) rfl⟩) ?_
 rintro _ _ ⟨a_26, c_27, v_28, a_29, c_30, o_31, r_32, w_33, e_34, hO_35, hl_36, rfl, rfl⟩
 refine go ?_
 obtain ⟨hE1, hE2, hE3, hE4⟩ := is_run hI f_3.2 ho e_34
 have hE5 := hI.s1
 obtain ⟨hv0_, hv1_, hv2_, hv3_, hv4_⟩ := hI.lim (by omega) (by omega) (by decide)
 refine go ?_
 refine jN [] (C_sameAnswers z.x.a1 a_29 z.x.c1 c_30 z.t.ans o_31 (by omega)) (hpre := fun w hw => ⟨(seesX (hw.seeRows 4 rfl)).2.1, hw.see (i := 1) rfl⟩) ?_
 refine go ?_
 have h_37 : z.t.ans = o_31 := hE1
 refine go ?_
 refine jW rfl rfl rfl (cB (dT h_37)) (jO [] Tryz.call31 rfl (Y_iTxLaid z (hI.lim (by omega) (by omega) (by decide)) l_2a l_2c l_2 10935 f_3.1 (by omega) (hI.okT hok (by omega)) (Nat.le_trans (growV (by omega)) (by decide)) (Nat.le_trans (growTV (by omega)) (by decide)) (hI.okW hok f_3.1 (fun _ h_ => by cases h_))) rfl (fun w hw => ⟨hw.see (i := 5) rfl, hw.seeRows 4 rfl, hw.hex hlow hpre.2⟩)) ?_
 rintro _ _ ⟨_, ⟨a_38, c_39, hO_42, rfl, rfl⟩, rfl⟩
 have hll_43 := laidW_len l_2 (viewA l_2 z.t) z.t.wr
 refine go ?_
 refine jW rfl rfl rfl (cB (dT h_37)) (jO [] Tryz.call18 rfl (C_sameCells a_38 a_26 c_39 c_27 (laidW l_2 (viewA l_2 z.t) z.t.wr) v_28 (by omega)) rfl (fun w hw => ⟨hw.see (i := 0) rfl, hw.see (i := 1) rfl⟩)) ?_
 rintro _ _ ⟨_, ⟨rfl, rfl⟩, rfl⟩
 refine go ?_
 have h_44 : (laidW l_2 (viewA l_2 z.t) z.t.wr) = v_28 := hE2
 refine go ?_
 refine jW rfl rfl rfl (cB (dT h_44)) (jO [] Tryz.call19 rfl (Y_iTxView z (hI.lim (by omega) (by omega) (by decide)) l_2a l_2c l_2 10935 f_3.1 (by omega) (hI.okT hok (by omega)) (Nat.le_trans (growV (by omega)) (by decide)) (Nat.le_trans (growTV (by omega)) (by decide))) rfl (fun w hw => ⟨hw.see (i := 6) rfl, hw.seeRows 5 rfl, hw.hex hlow hpre.2⟩)) ?_
 rintro _ _ ⟨_, ⟨a_45, c_46, v_47, e_48, hO_49, rfl, rfl⟩, rfl⟩
 have hO1_v_47 : v_47.length ≤ 28000000 := Nat.le_trans (hO_49).1 (Nat.le_trans (growV (by omega)) (by decide))
 refine go ?_
 refine jW rfl rfl rfl (cB (dT h_44)) (jO [] Tryz.call18 rfl (C_sameCells a_45 a_26 c_46 c_27 v_47 v_28 (by omega)) rfl (fun w hw => ⟨hw.see (i := 0) rfl, hw.see (i := 2) rfl⟩)) ?_
 rintro _ _ ⟨_, ⟨rfl, rfl⟩, rfl⟩
 refine go ?_
 have h_50 : v_47 = v_28 := (e_48.symm.trans hE3)
 refine go ?_
 have h_51 : ((z.t.calls.length : Nat) : Int) = ((l_4.length : Nat) : Int) := (by omega)
 refine go ?_
 refine jW rfl rfl rfl (cB (dT h_51)) (jO [] Tryz.call50 rfl (Y_iRight z (hI.lim (by omega) (by omega) (by decide)) l_2a l_2c l_2 10935 f_3.1 (by omega) (hI.okT hok (by omega)) (Nat.le_trans (growV (by omega)) (by decide)) (Nat.le_trans (growTV (by omega)) (by decide))) rfl (fun w hw => ⟨hw.see (i := 7) rfl, hw.seeRows 6 rfl, hw.hex hlow hpre.2⟩)) ?_
 rintro _ _ ⟨_, ⟨rfl, rfl⟩, rfl⟩
 refine go ?_
 have h_52 : z.t.state = 1 := (by omega)
 first | refine kA 2 (v := .bool true) (cB (dT h_52)) ?_ | refine jv 2 (v := .bool true) (cB (dT h_52)) ?_ | refine kB 2 (v := .bool true) (cB (dT h_52)) ?_ | refine kC 2 (v := .bool true) (cB (dT h_52)) ?_
 exact jJ [] ⟨rfl, rfl⟩
end Go.Proofs.YthlfmbbaomdciaaGreatDoor
