/-
Texts of the walk, joined: what each one proves stands at its theorems.
-/
import Derived.Test.YthlfmbbaomdciaaGreatDoorXBackAgainDatBa
set_option linter.unusedSimpArgs false
set_option linter.unusedVariables false
set_option linter.unnecessarySimpa false
set_option maxHeartbeats 4000000
set_option maxRecDepth 4000
namespace Go.Proofs.YthlfmbbaomdciaaGreatDoor
open Go Go.RowKit
attribute [local irreducible] JL JC JQ JO LO PO JA JX Ct
set_option maxRecDepth 8000 in
theorem L_BackAgain (pa : Option Addr) (pc : Nat) (p : Str) :
   Ct Tryz.prog 5 [.slice pa p.length pc] [] (fun w => Sees w (.slice pa p.length pc) 1 p.length (p.map encB) ∧ HexOk w) (fun v A' => v = .bool true ∧ A' = []) := by
 refine Ct.introL Tryz.func5 rfl Tryz.ntmps5 (lb rfl) fun w0 hpre hlow => ?_
 have hs_pa : Sees w0 _ _ _ _ := hpre.1
 refine go ?_
 refine jN [] (N_big pa pc p) ?_
 refine go ?_
 by_cases h_1 : 1048576 < ((p.length : Nat) : Int)
 · refine go ?_
   exact jJ [] ⟨rfl, rfl⟩
 refine go ?_
 refine jA [] (D_DrawSerialRun pa pc p (by omega)) (hpre := fun w hw => hw.seeOut_ hs_pa nM) ?_
 rintro _ _ ⟨l_2a, l_2c, l_2, l_4a, l_4c, l_4, f_3, f_5, rfl, rfl⟩
 have hO1_l_2 := f_3.1.1
 refine go ?_
 refine jA [] (Y_iTxNew 1 1 1) ?_
 rintro _ _ ⟨z_7, hz_8, rfl, rfl⟩
 refine jA [] (Y_implTxMark z_7 (show z_7.t.lim 1000000000 by rw [hz_8]; exact TD.new_lim) ) (hpre := fun w hw => hw.seeRows 0 rfl) ?_
 rintro _ _ ⟨z_9, hz_10, rfl, rfl⟩
 refine go ?_
 refine jG xzc fun b_11 => ?_
 refine jD 0 (xc z_9) ?_
 refine go ?_
 refine jG xzc fun b_12 => ?_
 refine jD 0 (xc z_9) ?_
 refine go ?_
 obtain ⟨hok, hll⟩ := id f_5
 have hk1 : z_7.t.mark.2 = 1 := by rw [hz_8] <;> rfl
 refine jL (fun k_ e_ L_ => ∃ i_ : Nat, ∃ z : TX, (i_ ≤ l_4.length) ∧ (bInv l_2 l_4 [] [] [0] 1 i_ i_ z.t) ∧ EL e_ [(2, .bool false), (3, .slice l_2a l_2.length l_2c), (4, .slice l_4a l_4.length l_4c), (6, iv z_7.t.mark.2), (7, .pointer (some ⟨b_12, 0, none⟩)), (8, nv i_)] ∧ L_ = [bk b_12 35 (xc z), bk b_11 35 (xc z_9), Res.rows (rdsX z), Res.rows (rdsX z_7), rC l_2a l_2c l_2, Res.row (.slice l_4a l_4.length l_4c) 45 7 l_4.length (l_4.flatMap encP)] ∧ k_ = l_4.length - i_) _ ⟨0, z_9, by omega, (by rw [hz_10, hz_8]; exact bInv.new), EL.go, rfl, rfl⟩ ?_
 rintro _ _ _ ⟨i_, z, hii_, hI, ⟨_, rfl⟩, rfl, rfl⟩
 have hIn := hI.n
 have hInr := hI.rl
 have hInw := hI.wl
 refine go ?_
 by_cases h_13 : ((i_ : Nat) : Int) < ((l_4.length : Nat) : Int)
 · refine go ?_
   have hok_ := hok i_ (by omega)
   refine jH [0] 11 ?_
   refine go ?_
   refine JA.facts fun hst => ?_
   obtain ⟨hr_14, hr_14b, -⟩ := row_some 5 rfl (by omega) hst
   refine go ?_
   refine jB (i := 6) ?_
   refine ja rfl rfl (jm (LO.loadRK 5 (vs := [iv (l_4.getD i_ p0_).call.kind, str (l_4.getD i_ p0_).call.name, str (l_4.getD i_ p0_).call.to_, iv (l_4.getD i_ p0_).call.a, iv (l_4.getD i_ p0_).call.b, str (l_4.getD i_ p0_).call.text]) rfl rfl ki kX (flat_part encP_len p0_ l_4 i_ 1 6 (by omega) (by decide)) rfl (by decide))) ?_
   rintro _ _ ⟨rfl, rfl⟩
   refine ⟨all_go, ?_⟩
   refine jB (i := 7) ?_
   refine jI [] (Y_iTxAsk z (hI.lim (by omega) (by omega) (by decide)) l_2a l_2c l_2 10935 f_3.1 (by omega) (hI.okT hok (by omega)) (askG (fun h_ => growR (by omega))) (askT (fun h_ => growTR (by omega))) 20000000 (askB (fun h_ => growR (by omega))) (l_4.getD i_ p0_).call hok_.1) (hpre := fun w hw => ⟨hw.see (i := 4) rfl, hw.seeRows 2 rfl, hw.hex hlow hpre.2⟩) ?_
   rintro _ _ ⟨z_20, A_21, e_22, ha_23, hb_24, rfl, rfl⟩
   refine go ?_
   refine jB (i := 11) ?_
   refine jS 1 (xc z_20) ?_
   refine go ?_
   have hst := hI.step (by omega) (by omega) srt.nil srt.nil e_22 hb_24
   refine go ?_
   exact jP [1, 1, 0, 1, 1, 1] ⟨i_ + 1, z_20, by omega, hst, EL.go, rfl, rfl⟩
 refine go ?_
 have hil : i_ = l_4.length := by omega
 refine go ?_
 refine jA [] (Y_implTxBack z ((hI.lim (by omega) (by omega) (by decide)).mono (show 500000000 ≤ 1000000000 by decide)) z_7.t.mark.2 (by omega)) (hpre := fun w hw => hw.seeRows 2 rfl) ?_
 rintro _ _ ⟨z_25, hz_26, rfl, rfl⟩
 refine go ?_
 refine jG xzc fun b_27 => ?_
 refine jD 0 (xc z_25) ?_
 refine go ?_
 obtain ⟨hb1, hB⟩ := hI.back (z := z_25.t) (by rw [hz_26, hk1])
 rw [← hk1] at hb1
 refine go ?_
 refine jL (fun k_ e_ L_ => ∃ n_ : Nat, ∃ u : TX, (n_ ≤ l_4.length) ∧ (bInv l_2 l_4 z.t.rd z.t.wr [] 1 n_ (i_ + n_) u.t) ∧ EL e_ [(2, .bool false), (3, .slice l_2a l_2.length l_2c), (4, .slice l_4a l_4.length l_4c), (6, iv z_7.t.mark.2), (7, .pointer (some ⟨b_12, 0, none⟩)), (9, .pointer (some ⟨b_27, 0, none⟩)), (10, .bool (z.t.back z_7.t.mark.2).2), (11, nv n_)] ∧ L_ = [bk b_27 35 (xc u), Res.rows (rdsX u), bk b_12 35 (xc z), bk b_11 35 (xc z_9), Res.rows (rdsX z), Res.rows (rdsX z_7), rC l_2a l_2c l_2, Res.row (.slice l_4a l_4.length l_4c) 45 7 l_4.length (l_4.flatMap encP)] ∧ k_ = l_4.length - n_) _ ⟨0, z_25, by omega, hB, EL.go, rfl, rfl⟩ ?_
 rintro _ _ _ ⟨n_, u, hin_, hK, ⟨_, rfl⟩, rfl, rfl⟩
 have hKn := hK.n
 have hKnr := hK.rl
 have hKnw := hK.wl
 refine go ?_
 by_cases h_28 : ((n_ : Nat) : Int) < ((l_4.length : Nat) : Int)
 · refine go ?_
   have hok_ := hok n_ (by omega)
   refine jH [0] 11 ?_
   refine go ?_
   refine JA.facts fun hst => ?_
   obtain ⟨hr_29, hr_29b, -⟩ := row_some 7 rfl (by omega) hst
   refine go ?_
   refine jB (i := 6) ?_
   refine ja rfl rfl (jm (LO.loadRK 7 (vs := [iv (l_4.getD n_ p0_).call.kind, str (l_4.getD n_ p0_).call.name, str (l_4.getD n_ p0_).call.to_, iv (l_4.getD n_ p0_).call.a, iv (l_4.getD n_ p0_).call.b, str (l_4.getD n_ p0_).call.text]) rfl rfl ki kX (flat_part encP_len p0_ l_4 n_ 1 6 (by omega) (by decide)) rfl (by decide))) ?_
   rintro _ _ ⟨rfl, rfl⟩
   refine ⟨all_go, ?_⟩
   refine jB (i := 7) ?_
   refine jI [] (Y_iTxAsk u (hK.lim (by omega) (by omega) (by decide)) l_2a l_2c l_2 10935 f_3.1 (by omega) (hK.okT hok (by omega)) (askG (fun h_ => growR (by omega))) (askT (fun h_ => growTR (by omega))) 20000000 (askB (fun h_ => growR (by omega))) (l_4.getD n_ p0_).call hok_.1) (hpre := fun w hw => ⟨hw.see (i := 6) rfl, hw.seeRows 1 rfl, hw.hex hlow hpre.2⟩) ?_
   rintro _ _ ⟨z_35, A_36, e_37, ha_38, hb_39, rfl, rfl⟩
   refine go ?_
   refine jB (i := 11) ?_
   refine jS 1 (xc z_35) ?_
   refine go ?_
   have hst := hK.step (by omega) (by omega) (hI.srtR srt.nil) (hI.srtW srt.nil) e_37 hb_39
   refine go ?_
   exact jP [1, 0, 1, 1, 1, 1, 1, 1] ⟨n_ + 1, z_35, by omega, hst, EL.go, rfl, rfl⟩
 refine go ?_
 obtain rfl : n_ = i_ := by omega
 obtain ⟨hE1, hE2, hE3, hE4⟩ := hI.again hK
 have hO_ := (f_3.1).1
 obtain ⟨hu0_, hu1_, hu2_, hu3_, hu4_⟩ := hK.lim (by omega) (by omega) (by decide)
 obtain ⟨hv0_, hv1_, hv2_, hv3_, hv4_⟩ := hI.lim (by omega) (by omega) (by decide)
 refine jH [0, 1] 28 ?_
 refine go ?_
 have h_40 : z_7.t.mark.2 = 1 := hk1
 refine go ?_
 refine jB (i := 10) ?_
 refine jn rfl rfl rfl rfl (cB hb1) (jO [] Tryz.call30 rfl (C_sameAnswers u.x.a1 z.x.a1 u.x.c1 z.x.c1 u.t.ans z.t.ans (by omega)) rfl (fun w hw => ⟨(seesX (hw.seeRows 1 rfl)).2.1, (seesX (hw.seeRows 4 rfl)).2.1⟩)) ?_
 rintro _ _ ⟨_, ⟨rfl, rfl⟩, rfl⟩
 refine ⟨all_go, ?_⟩
 refine go ?_
 have h_41 : u.t.ans = z.t.ans := hE1
 refine go ?_
 refine jB (i := 17) ?_
 refine jn rfl rfl rfl rfl (cB (dT h_41)) (jO [] Tryz.call26 rfl (C_sameTouch u.x.a2 u.x.a3 z.x.a2 z.x.a3 u.x.c2 u.x.c3 z.x.c2 z.x.c3 u.t.rd u.t.wr z.t.rd z.t.wr (by omega) (by omega)) rfl (fun w hw => ⟨(seesX (hw.seeRows 1 rfl)).2.2.1, (seesX (hw.seeRows 1 rfl)).2.2.2.1, (seesX (hw.seeRows 4 rfl)).2.2.1, (seesX (hw.seeRows 4 rfl)).2.2.2.1⟩)) ?_
 rintro _ _ ⟨_, ⟨rfl, rfl⟩, rfl⟩
 refine ⟨all_go, ?_⟩
 refine go ?_
 refine jq 20 rfl (by kernel_rfl) (NP.th NP.body) (by kernel_rfl) (by kernel_rfl) rfl rfl rfl (cB (by rw [hE2, hE3]; simp)) (PO.move (v := .slice l_2a l_2.length l_2c) rfl) <| kG 21 rfl (by kernel_rfl) (NP.th NP.body) (by kernel_rfl) (by kernel_rfl) (by kernel_rfl) rfl rfl rfl (cB (by rw [hE2, hE3]; simp)) (jl 0 (vs := (xc u)) rfl rfl kT kQ rfl rfl) <| jq 23 rfl (by kernel_rfl) (NP.th NP.body) (by kernel_rfl) (by kernel_rfl) rfl rfl rfl (cB (by rw [hE2, hE3]; simp)) (PO.move (v := .slice l_2a l_2.length l_2c) rfl) <| kG 24 rfl (by kernel_rfl) (NP.th NP.body) (by kernel_rfl) (by kernel_rfl) (by kernel_rfl) rfl rfl rfl (cB (by rw [hE2, hE3]; simp)) (jl 1 (vs := (xc z)) rfl rfl kT kQ rfl rfl) ?_
 refine jB (i := 22) ?_
 refine jn rfl rfl rfl rfl (cB (by rw [hE2, hE3]; simp)) (jO [] Tryz.call31 rfl (Y_iTxLaid u (hK.lim (by omega) (by omega) (by decide)) l_2a l_2c l_2 10935 f_3.1 (by omega) (hK.okT hok (by omega)) (Nat.le_trans (growV (by omega)) (by decide)) (Nat.le_trans (growTV (by omega)) (by decide)) (hK.okW hok f_3.1 (hI.okW hok f_3.1 (fun _ h_ => by cases h_)))) rfl (fun w hw => ⟨hw.see (i := 6) rfl, hw.seeRows 1 rfl, hw.hex hlow hpre.2⟩)) ?_
 rintro _ _ ⟨_, ⟨a_60, c_61, hO_64, rfl, rfl⟩, rfl⟩
 have hll_65 := laidW_len l_2 (viewA l_2 u.t) u.t.wr
 refine ⟨all_go, ?_⟩
 refine jB (i := 25) ?_
 refine jn rfl rfl rfl rfl (cB (by rw [hE2, hE3]; simp)) (jO [] Tryz.call31 rfl (Y_iTxLaid z (hI.lim (by omega) (by omega) (by decide)) l_2a l_2c l_2 10935 f_3.1 (by omega) (hI.okT hok (by omega)) (Nat.le_trans (growV (by omega)) (by decide)) (Nat.le_trans (growTV (by omega)) (by decide)) (hI.okW hok f_3.1 (fun _ h_ => by cases h_))) rfl (fun w hw => ⟨hw.see (i := 7) rfl, hw.seeRows 5 rfl, hw.hex hlow hpre.2⟩)) ?_
 rintro _ _ ⟨_, ⟨a_72, c_73, hO_76, rfl, rfl⟩, rfl⟩
 have hll_77 := laidW_len l_2 (viewA l_2 z.t) z.t.wr
 refine ⟨all_go, ?_⟩
 refine jB (i := 26) ?_
 refine jn rfl rfl rfl rfl (cB (by rw [hE2, hE3]; simp)) (jO [] Tryz.call18 rfl (C_sameCells a_60 a_72 c_61 c_73 (laidW l_2 (viewA l_2 u.t) u.t.wr) (laidW l_2 (viewA l_2 z.t) z.t.wr) (by omega)) rfl (fun w hw => ⟨hw.see (i := 1) rfl, hw.see (i := 0) rfl⟩)) ?_
 rintro _ _ ⟨_, ⟨rfl, rfl⟩, rfl⟩
 refine ⟨all_go, ?_⟩
 refine jd 27 rfl (PO.pickT (v := .bool (decide ((laidW l_2 (viewA l_2 u.t) u.t.wr) = (laidW l_2 (viewA l_2 z.t) z.t.wr)))) (cB (by rw [hE2, hE3]; simp)) rfl) <| jd 28 rfl (PO.assign (v := .bool (decide ((laidW l_2 (viewA l_2 u.t) u.t.wr) = (laidW l_2 (viewA l_2 z.t) z.t.wr)))) rfl) ?_
 refine go ?_
 have h_78 : (laidW l_2 (viewA l_2 u.t) u.t.wr) = (laidW l_2 (viewA l_2 z.t) z.t.wr) := hE4
 first | refine kA 2 (v := .bool true) (cB (dT h_78)) ?_ | refine jv 2 (v := .bool true) (cB (dT h_78)) ?_ | refine kB 2 (v := .bool true) (cB (dT h_78)) ?_ | refine kC 2 (v := .bool true) (cB (dT h_78)) ?_
 exact jJ [] ⟨rfl, rfl⟩
end Go.Proofs.YthlfmbbaomdciaaGreatDoor
