/-
  laws.FnMarks walked: it returns true.
-/
import Derived.Test.YtghfijncihbojaaGreatDatRd
import Derived.Test.YtghfijncihbojaaGreatS17NAMES
import Derived.Test.YtghfijncihbojaaGreatDatL
import Derived.Test.YtghfijncihbojaaGreatS24DRAWS
set_option linter.unusedSimpArgs false
set_option linter.unusedVariables false
set_option linter.unnecessarySimpa false
namespace Go.Proofs.YtghfijncihbojaaGreat
open Go Go.RowKit
attribute [local irreducible] JL JC JQ JO LO PO JA JX Ct

set_option maxRecDepth 8000 in
set_option maxHeartbeats 4000000 in
theorem L_Marks (pa : Option Addr) (pc : Nat) (p : Str) :
    Ct Tryz.prog 3 [.slice pa p.length pc] [] (fun w => Sees w (.slice pa p.length pc) 1 p.length (p.map encB)) (fun v A' => v = .bool true ∧ A' = []) := by
  refine Ct.intro Tryz.func3 rfl Tryz.ntmps3 (lb rfl) fun w0 hpre => ?_
  have hs_pa : Sees w0 _ _ _ _ := hpre
  refine jC <| jE <| jA (jG (v := .bool false) rfl) <| jD <| jB <| jC <| jC <| jE <| jA (jF (v := .slice pa p.length pc) rfl) ?_
  refine jH rfl (jM [] Tryz.call5 rfl (N_big pa pc p) rfl (fun _ _ => trivial)) ?_
  rintro _ _ ⟨_, ⟨rfl, rfl⟩, rfl⟩
  refine jD <| jB ?_
  by_cases h_1 : 1048576 < ((p.length : Nat) : Int)
  · refine jO (cB (dT h_1)) <| jC <| jE <| jA (jG (v := .bool true) rfl) <| jD <| jB <| jL <| jW <| jR (.inl rfl) rfl (jN (v := .bool true) rfl) (List.nil_sublist _) ?_
    exact ⟨rfl, rfl⟩
  refine jP (cB (dF h_1)) <| jU <| jB <| jC <| jE <| jA (jF (v := .slice pa p.length pc) rfl) ?_
  refine jH rfl (jM [] Tryz.call6 rfl (D_dTxMark pa pc p (by omega)) rfl (fun w hw => hw.seeOut_ hs_pa nM)) ?_
  rintro _ _ ⟨_, ⟨z_2, hd_3, rfl, rfl⟩, rfl⟩
  refine jH rfl (jn (z := xz) (cs := xzc) gH rfl) ?_
  rintro _ _ ⟨b_6, rfl, rfl⟩
  refine jH rfl (jT 0 (vs := (xc z_2)) (cs' := (xc z_2)) rfl rfl rfl rfl kq rfl rfl (lb rfl) rfl) ?_
  rintro _ _ rfl
  refine jD <| jB <| jC <| jE <| jK (jX 0 (vs := (xc z_2)) rfl rfl kz kq rfl rfl) ?_
  refine jH rfl (jM [] Tryz.call7 rfl (Y_implTxMark z_2 ((hd_3.lim (by decide) (by decide)).mono (show 500000000 ≤ 1000000000 by decide)) ) rfl (fun w hw => hw.seeRows 1 rfl)) ?_
  rintro _ _ ⟨_, ⟨z_7, hz_8, rfl, rfl⟩, rfl⟩
  refine jA (jF (v := .tuple #[(xv z_7), iv z_2.t.mark.2]) rfl) <| jA (jb (v := (xv z_7)) rfl rfl) <| jA (jb (v := iv z_2.t.mark.2) rfl rfl) ?_
  refine jH rfl (jn (z := xz) (cs := xzc) gH rfl) ?_
  rintro _ _ ⟨b_9, rfl, rfl⟩
  refine jH rfl (jT 0 (vs := (xc z_7)) (cs' := (xc z_7)) rfl rfl rfl rfl kq rfl rfl (lb rfl) rfl) ?_
  rintro _ _ rfl
  refine jA (jG (v := iv z_2.t.mark.2) rfl) <| jD <| jB <| jC ?_
  have hmb := mark_rng z_2.t
  refine jE <| jK (jX 2 (vs := (xc z_2)) rfl rfl kz kq rfl rfl) ?_
  refine jH rfl (jM [] Tryz.call8 rfl (Y_specTxMark z_2 ((hd_3.lim (by decide) (by decide)).mono (show 500000000 ≤ 1000000000 by decide)) ) rfl (fun w hw => hw.seeRows 3 rfl)) ?_
  rintro _ _ ⟨_, ⟨z_10, hz_11, rfl, rfl⟩, rfl⟩
  refine jA (jF (v := .tuple #[(xv z_10), iv z_2.t.mark.2]) rfl) <| jA (jb (v := (xv z_10)) rfl rfl) <| jA (jb (v := iv z_2.t.mark.2) rfl rfl) ?_
  refine jH rfl (jn (z := xz) (cs := xzc) gH rfl) ?_
  rintro _ _ ⟨b_12, rfl, rfl⟩
  refine jH rfl (jT 0 (vs := (xc z_10)) (cs' := (xc z_10)) rfl rfl rfl rfl kq rfl rfl (lb rfl) rfl) ?_
  rintro _ _ rfl
  refine jA (jG (v := iv z_2.t.mark.2) rfl) <| jD <| jB <| jC <| jE <| jA (jF (v := .slice pa p.length pc) rfl) ?_
  refine jH rfl (jM [] Tryz.call9 rfl (D_dTxBack pa pc p (by omega)) rfl (fun w hw => hw.seeOut_ hs_pa nM)) ?_
  rintro _ _ ⟨_, ⟨z_13, n_15, hd_14, hk_16, rfl, rfl⟩, rfl⟩
  refine jA (jF (v := .tuple #[(xv z_13), iv n_15]) rfl) <| jA (jb (v := (xv z_13)) rfl rfl) <| jA (jb (v := iv n_15) rfl rfl) ?_
  refine jH rfl (jn (z := xz) (cs := xzc) gH rfl) ?_
  rintro _ _ ⟨b_17, rfl, rfl⟩
  refine jH rfl (jT 0 (vs := (xc z_13)) (cs' := (xc z_13)) rfl rfl rfl rfl kq rfl rfl (lb rfl) rfl) ?_
  rintro _ _ rfl
  refine jA (jG (v := iv n_15) rfl) <| jD <| jB <| jC <| jE <| jK (jX 0 (vs := (xc z_13)) rfl rfl kz kq rfl rfl) <| jA (jF (v := iv n_15) rfl) ?_
  refine jH rfl (jM [] Tryz.call10 rfl (Y_implTxBack z_13 ((hd_14.lim (by decide) (by decide)).mono (show 500000000 ≤ 1000000000 by decide)) n_15 (by omega)) rfl (fun w hw => hw.seeRows 1 rfl)) ?_
  rintro _ _ ⟨_, ⟨z_18, hz_19, rfl, rfl⟩, rfl⟩
  refine jA (jF (v := .tuple #[(xv z_18), .bool ((z_13.t.back n_15).2)]) rfl) <| jA (jb (v := (xv z_18)) rfl rfl) <| jA (jb (v := .bool ((z_13.t.back n_15).2)) rfl rfl) ?_
  refine jH rfl (jn (z := xz) (cs := xzc) gH rfl) ?_
  rintro _ _ ⟨b_20, rfl, rfl⟩
  refine jH rfl (jT 0 (vs := (xc z_18)) (cs' := (xc z_18)) rfl rfl rfl rfl kq rfl rfl (lb rfl) rfl) ?_
  rintro _ _ rfl
  refine jA (jG (v := .bool ((z_13.t.back n_15).2)) rfl) <| jD <| jB <| jC <| jE <| jK (jX 2 (vs := (xc z_13)) rfl rfl kz kq rfl rfl) <| jA (jF (v := iv n_15) rfl) ?_
  refine jH rfl (jM [] Tryz.call11 rfl (Y_specTxBack z_13 ((hd_14.lim (by decide) (by decide)).mono (show 500000000 ≤ 1000000000 by decide)) n_15 (by omega)) rfl (fun w hw => hw.seeRows 3 rfl)) ?_
  rintro _ _ ⟨_, ⟨z_21, hz_22, rfl, rfl⟩, rfl⟩
  refine jA (jF (v := .tuple #[(xv z_21), .bool ((z_13.t.back n_15).2)]) rfl) <| jA (jb (v := (xv z_21)) rfl rfl) <| jA (jb (v := .bool ((z_13.t.back n_15).2)) rfl rfl) ?_
  refine jH rfl (jn (z := xz) (cs := xzc) gH rfl) ?_
  rintro _ _ ⟨b_23, rfl, rfl⟩
  refine jH rfl (jT 0 (vs := (xc z_21)) (cs' := (xc z_21)) rfl rfl rfl rfl kq rfl rfl (lb rfl) rfl) ?_
  rintro _ _ rfl
  refine jA (jG (v := .bool ((z_13.t.back n_15).2)) rfl) <| jD <| jB <| jC <| jC <| jr [bk b_23 31 (xc z_21), bk b_20 31 (xc z_18), bk b_17 31 (xc z_13), bk b_12 31 (xc z_10), bk b_9 31 (xc z_7), bk b_6 31 (xc z_2)] 1000 mixed (by simp) <| jI 0 rfl (jF (v := iv z_2.t.mark.2) rfl) <| jI 1 rfl (jF (v := iv z_2.t.mark.2) rfl) <| jI 2 rfl (kN rfl rfl) <| jI 3 rfl (jF (v := .bool (!(decide (z_2.t.mark.2 = z_2.t.mark.2)))) rfl) ?_
  refine kf 4 rfl (by kernel_rfl) (NP.th (NP.th NP.body)) (by kernel_rfl) (by kernel_rfl) (by kernel_rfl) rfl rfl rfl (cB (cN (dT rfl))) (jX 4 (vs := (xc z_7)) rfl rfl kz kq rfl rfl) <| kf 5 rfl (by kernel_rfl) (NP.th (NP.th NP.body)) (by kernel_rfl) (by kernel_rfl) (by kernel_rfl) rfl rfl rfl (cB (cN (dT rfl))) (jX 3 (vs := (xc z_10)) rfl rfl kz kq rfl rfl) <| jQ (i := 6) ?_
  refine JX.opOnD rfl rfl rfl rfl (cB (cN (dT rfl))) (jM [] Tryz.call12 rfl (Y_sameTx z_7 z_10 (((hd_3.mark hz_8).lim (by decide) (by decide)).mono (show 500000000 ≤ 1000000000 by decide))) rfl (fun w hw => ⟨hw.seeRows 9 rfl, hw.seeRows 7 rfl⟩)) ?_
  rintro _ _ ⟨_, ⟨rfl, rfl⟩, rfl⟩
  refine ⟨(by simp), ?_⟩
  refine kL 7 rfl (by kernel_rfl) (NP.th (NP.th NP.body)) (by kernel_rfl) (by kernel_rfl) rfl rfl rfl (cB (cN (dT rfl))) (kP rfl) <| jI 8 rfl (jv (v := .bool (!(decide (z_7.t = z_10.t)))) (cB (cN (dT rfl))) rfl) <| jI 9 rfl (jF (v := .bool (!(decide (z_7.t = z_10.t)))) rfl) ?_
  have h_24 : z_7.t = z_10.t := (hz_8.trans hz_11.symm)
  refine kL 10 rfl (by kernel_rfl) (NP.th (NP.th NP.body)) (by kernel_rfl) (by kernel_rfl) rfl rfl rfl (cB (cN (dT h_24))) (jF (v := .bool ((z_13.t.back n_15).2)) rfl) <| kL 11 rfl (by kernel_rfl) (NP.th (NP.th NP.body)) (by kernel_rfl) (by kernel_rfl) rfl rfl rfl (cB (cN (dT h_24))) (jF (v := .bool ((z_13.t.back n_15).2)) rfl) <| kL 12 rfl (by kernel_rfl) (NP.th (NP.th NP.body)) (by kernel_rfl) (by kernel_rfl) rfl rfl rfl (cB (cN (dT h_24))) (PO.neqB Tryz.underlying4 rfl rfl) <| jI 13 rfl (jv (v := .bool (!(decide (((z_13.t.back n_15).2) = ((z_13.t.back n_15).2))))) (cB (cN (dT h_24))) rfl) <| jI 14 rfl (jF (v := .bool (!(decide (((z_13.t.back n_15).2) = ((z_13.t.back n_15).2))))) rfl) <| kf 15 rfl (by kernel_rfl) (NP.th (NP.th NP.body)) (by kernel_rfl) (by kernel_rfl) (by kernel_rfl) rfl rfl rfl (cB (cN (dT rfl))) (jX 1 (vs := (xc z_18)) rfl rfl kz kq rfl rfl) <| kf 16 rfl (by kernel_rfl) (NP.th (NP.th NP.body)) (by kernel_rfl) (by kernel_rfl) (by kernel_rfl) rfl rfl rfl (cB (cN (dT rfl))) (jX 0 (vs := (xc z_21)) rfl rfl kz kq rfl rfl) <| jQ (i := 17) ?_
  refine JX.opOnD rfl rfl rfl rfl (cB (cN (dT rfl))) (jM [] Tryz.call12 rfl (Y_sameTx z_18 z_21 (show z_18.t.lim 1000000000 by rw [hz_19]; exact TD.back_lim ((hd_14.lim (by decide) (by decide)).mono (show 500000000 ≤ 1000000000 by decide)))) rfl (fun w hw => ⟨hw.seeRows 3 rfl, hw.seeRows 1 rfl⟩)) ?_
  rintro _ _ ⟨_, ⟨rfl, rfl⟩, rfl⟩
  refine ⟨(by simp), ?_⟩
  refine kL 18 rfl (by kernel_rfl) (NP.th (NP.th NP.body)) (by kernel_rfl) (by kernel_rfl) rfl rfl rfl (cB (cN (dT rfl))) (kP rfl) <| jI 19 rfl (jv (v := .bool (!(decide (z_18.t = z_21.t)))) (cB (cN (dT rfl))) rfl) <| jI 20 rfl (jF (v := .bool (!(decide (z_18.t = z_21.t)))) rfl) ?_
  have h_25 : z_18.t = z_21.t := (hz_19.trans hz_22.symm)
  refine kf 21 rfl (by kernel_rfl) (NP.th (NP.th NP.body)) (by kernel_rfl) (by kernel_rfl) (by kernel_rfl) rfl rfl rfl (cB (cN (dT h_25))) (jX 5 (vs := (xc z_2)) rfl rfl kz kq rfl rfl) <| kf 23 rfl (by kernel_rfl) (NP.th (NP.th NP.body)) (by kernel_rfl) (by kernel_rfl) (by kernel_rfl) rfl rfl rfl (cB (cN (dT h_25))) (jX 5 (vs := (xc z_2)) rfl rfl kz kq rfl rfl) <| jQ (i := 22) ?_
  refine JX.opOnD rfl rfl rfl rfl (cB (cN (dT h_25))) (jM [] Tryz.call13 rfl (Y_iMok z_2 ((hd_3.lim (by decide) (by decide)).mono (show 500000000 ≤ 1000000000 by decide))) rfl (fun w hw => hw.seeRows 11 rfl)) ?_
  rintro _ _ ⟨_, ⟨b_30, hb_31, rfl, rfl⟩, rfl⟩
  refine ⟨(by simp), ?_⟩
  refine jQ (i := 24) ?_
  refine JX.opOnD rfl rfl rfl rfl (cB (cN (dT h_25))) (jM [] Tryz.call14 rfl (Y_sMok z_2 ((hd_3.lim (by decide) (by decide)).mono (show 500000000 ≤ 1000000000 by decide))) rfl (fun w hw => hw.seeRows 11 rfl)) ?_
  rintro _ _ ⟨_, ⟨b_34, hb_35, rfl, rfl⟩, rfl⟩
  refine ⟨(by simp), ?_⟩
  refine kL 25 rfl (by kernel_rfl) (NP.th (NP.th NP.body)) (by kernel_rfl) (by kernel_rfl) rfl rfl rfl (cB (cN (dT h_25))) (PO.neqB Tryz.underlying4 rfl rfl) <| jI 26 rfl (jv (v := .bool (!(decide (b_30 = b_34)))) (cB (cN (dT h_25))) rfl) <| jI 27 rfl (jF (v := .bool (!(decide (b_30 = b_34)))) rfl) ?_
  have h_36 : b_30 = b_34 := (iffB hb_31 hb_35)
  refine kf 28 rfl (by kernel_rfl) (NP.th (NP.th NP.body)) (by kernel_rfl) (by kernel_rfl) (by kernel_rfl) rfl rfl rfl (cB (cN (dT h_36))) (jX 5 (vs := (xc z_2)) rfl rfl kz kq rfl rfl) <| kL 30 rfl (by kernel_rfl) (NP.th (NP.th NP.body)) (by kernel_rfl) (by kernel_rfl) rfl rfl rfl (cB (cN (dT h_36))) (jJ fo31_7 rfl) <| kf 31 rfl (by kernel_rfl) (NP.th (NP.th NP.body)) (by kernel_rfl) (by kernel_rfl) (by kernel_rfl) rfl rfl rfl (cB (cN (dT h_36))) (jV 5 (v := .slice z_2.x.a4 z_2.t.marks.length z_2.x.c4) rfl rfl gS rfl) <| kL 32 rfl (by kernel_rfl) (NP.th (NP.th NP.body)) (by kernel_rfl) (by kernel_rfl) rfl rfl rfl (cB (cN (dT h_36))) (jp gB rfl) <| jQ (i := 29) ?_
  refine JX.opOnD rfl rfl rfl rfl (cB (cN (dT h_36))) (jM [] Tryz.call15 rfl (Y_marked z_2 ((hd_3.lim (by decide) (by decide)).mono (show 500000000 ≤ 1000000000 by decide)).l4) rfl (fun _ _ => trivial)) ?_
  rintro _ _ ⟨_, ⟨rfl, rfl⟩, rfl⟩
  refine ⟨(by simp), ?_⟩
  refine kL 33 rfl (by kernel_rfl) (NP.th (NP.th NP.body)) (by kernel_rfl) (by kernel_rfl) rfl rfl rfl (cB (cN (dT h_36))) (kN rfl rfl) <| jI 34 rfl (jv (v := .bool (!(decide (((z_2.t.marks.length : Nat) : Int) = ((z_2.t.marks.length : Nat) : Int))))) (cB (cN (dT h_36))) rfl) <| jI 35 rfl (jF (v := .bool (!(decide (((z_2.t.marks.length : Nat) : Int) = ((z_2.t.marks.length : Nat) : Int))))) rfl) <| kf 36 rfl (by kernel_rfl) (NP.th (NP.th NP.body)) (by kernel_rfl) (by kernel_rfl) (by kernel_rfl) rfl rfl rfl (cB (cN (dT rfl))) (jX 2 (vs := (xc z_13)) rfl rfl kz kq rfl rfl) <| kL 37 rfl (by kernel_rfl) (NP.th (NP.th NP.body)) (by kernel_rfl) (by kernel_rfl) rfl rfl rfl (cB (cN (dT rfl))) (jF (v := iv n_15) rfl) <| kf 39 rfl (by kernel_rfl) (NP.th (NP.th NP.body)) (by kernel_rfl) (by kernel_rfl) (by kernel_rfl) rfl rfl rfl (cB (cN (dT rfl))) (jX 2 (vs := (xc z_13)) rfl rfl kz kq rfl rfl) <| kL 40 rfl (by kernel_rfl) (NP.th (NP.th NP.body)) (by kernel_rfl) (by kernel_rfl) rfl rfl rfl (cB (cN (dT rfl))) (jF (v := iv n_15) rfl) <| jQ (i := 38) ?_
  refine JX.opOnD rfl rfl rfl rfl (cB (cN (dT rfl))) (jM [] Tryz.call17 rfl (Y_iSince z_13 ((hd_14.lim (by decide) (by decide)).mono (show 500000000 ≤ 1000000000 by decide)) n_15 (by omega)) rfl (fun w hw => hw.seeRows 5 rfl)) ?_
  rintro _ _ ⟨_, ⟨a_46, c_47, rfl, rfl⟩, rfl⟩
  have hl_48 : (z_13.t.since n_15).length ≤ 1000000000 := since_le ((hd_14.lim (by decide) (by decide)).mono (show 500000000 ≤ 1000000000 by decide))
  refine ⟨(by simp), ?_⟩
  refine jQ (i := 41) ?_
  refine JX.opOnD rfl rfl rfl rfl (cB (cN (dT rfl))) (jM [] Tryz.call18 rfl (Y_sSince z_13 ((hd_14.lim (by decide) (by decide)).mono (show 500000000 ≤ 1000000000 by decide)) n_15 (by omega)) rfl (fun w hw => hw.seeRows 6 rfl)) ?_
  rintro _ _ ⟨_, ⟨a_52, c_53, rfl, rfl⟩, rfl⟩
  have hl_54 : (z_13.t.since n_15).length ≤ 1000000000 := since_le ((hd_14.lim (by decide) (by decide)).mono (show 500000000 ≤ 1000000000 by decide))
  refine ⟨(by simp), ?_⟩
  refine jQ (i := 42) ?_
  refine JX.opOnD rfl rfl rfl rfl (cB (cN (dT rfl))) (jM [] Tryz.call16 rfl (C_sameCallList a_46 a_52 c_47 c_53 (z_13.t.since n_15) (z_13.t.since n_15) (by omega)) rfl (fun w hw => ⟨hw.see (i := 1) rfl, hw.see (i := 0) rfl⟩)) ?_
  rintro _ _ ⟨_, ⟨rfl, rfl⟩, rfl⟩
  refine ⟨(by simp), ?_⟩
  refine kL 43 rfl (by kernel_rfl) (NP.th (NP.th NP.body)) (by kernel_rfl) (by kernel_rfl) rfl rfl rfl (cB (cN (dT rfl))) (kP rfl) <| jI 44 rfl (jv (v := .bool (!(decide ((z_13.t.since n_15) = (z_13.t.since n_15))))) (cB (cN (dT rfl))) rfl) <| kI (by kernel_rfl) <| jB <| jP (cB (cN (dT rfl))) <| jU <| jB <| jC <| jE ?_
  refine jH rfl (jM [] Tryz.call19 rfl (Y_iTxNew 1 1 1) rfl (fun _ _ => trivial)) ?_
  rintro _ _ ⟨_, ⟨z_55, hz_56, rfl, rfl⟩, rfl⟩
  refine jH rfl (jM [] Tryz.call7 rfl (Y_implTxMark z_55 (show z_55.t.lim 1000000000 by rw [hz_56]; exact ((tInv.new (by decide)).lim (i := 0) (j := 0) (by decide) (by decide)).mono (by decide)) ) rfl (fun w hw => hw.seeRows 0 rfl)) ?_
  rintro _ _ ⟨_, ⟨z_57, hz_58, rfl, rfl⟩, rfl⟩
  refine jA (jF (v := .tuple #[(xv z_57), iv z_55.t.mark.2]) rfl) <| jA (jb (v := (xv z_57)) rfl rfl) <| jA (jb (v := iv z_55.t.mark.2) rfl rfl) ?_
  refine jH rfl (jn (z := xz) (cs := xzc) gH rfl) ?_
  rintro _ _ ⟨b_59, rfl, rfl⟩
  refine jH rfl (jT 0 (vs := (xc z_57)) (cs' := (xc z_57)) rfl rfl rfl rfl kq rfl rfl (lb rfl) rfl) ?_
  rintro _ _ rfl
  refine jA (jG (v := iv z_55.t.mark.2) rfl) <| jD <| jB <| jC ?_
  have h14 : z_57.t = (TD.new 1 1 1).mark.1 := by rw [hz_58, hz_56]
  have hI14 : tInv 0 1 z_57.t := (tInv.new (by decide)).mark h14
  have hn14 := hI14.n
  have h15 : z_55.t.mark.2 = 1 := by rw [hz_56] <;> rfl
  refine JC.cut (fun e_ L_ => ∃ l_60 : List Cell, ∃ l_60a : Option Addr, ∃ l_60c : Nat, ∃ z_63 : TX, ∃ A_64 : AN, ∃ b_68 : Nat, ∃ b_69 : Nat, (okC' 3 1048576 l_60) ∧ (bootS = l_60) ∧ (TD.askV (viewL l_60 z_57.t) z_57.t (⟨1, [120], [], 0, 0, []⟩ : CL) = (z_63.t, A_64)) ∧ ((0 ≤ A_64.code ∧ A_64.code ≤ 9) ∧ (-1 ≤ A_64.n ∧ A_64.n ≤ 1000000000) ∧ A_64.text.length ≤ 30000000000000) ∧ (z_63.t.rd.length ≤ z_57.t.rd.length + 20000000 ∧ z_63.t.wr.length ≤ z_57.t.wr.length + 20000000) ∧ e_ 2 = .bool false ∧ e_ 3 = .pointer (some ⟨b_6, 0, none⟩) ∧ e_ 4 = .pointer (some ⟨b_9, 0, none⟩) ∧ e_ 5 = iv z_2.t.mark.2 ∧ e_ 15 = iv z_55.t.mark.2 ∧ e_ 16 = .pointer (some ⟨b_68, 0, none⟩) ∧ L_ = [bk b_69 45 [iv A_64.code, iv A_64.n, str A_64.text], bk b_68 31 (xc z_63), Res.rows (rdsX z_63), rC l_60a l_60c l_60, bk b_59 31 (xc z_57), Res.rows (rdsX z_57), Res.rows (rdsX z_55), Res.row (.slice a_52 ((z_13.t.since n_15).length) c_53) 51 6 ((z_13.t.since n_15).length) ((z_13.t.since n_15).flatMap encK), Res.row (.slice a_46 ((z_13.t.since n_15).length) c_47) 51 6 ((z_13.t.since n_15).length) ((z_13.t.since n_15).flatMap encK), bk b_23 31 (xc z_21), Res.rows (rdsX z_21), bk b_20 31 (xc z_18), Res.rows (rdsX z_18), bk b_17 31 (xc z_13), Res.rows (rdsX z_13), bk b_12 31 (xc z_10), Res.rows (rdsX z_10), bk b_9 31 (xc z_7), Res.rows (rdsX z_7), bk b_6 31 (xc z_2), Res.rows (rdsX z_2)]) ?_ ?_
  · have h14 : z_57.t = (TD.new 1 1 1).mark.1 := by rw [hz_58, hz_56]
    have hI14 : tInv 0 1 z_57.t := (tInv.new (by decide)).mark h14
    have hn14 := hI14.n
    have h15 : z_55.t.mark.2 = 1 := by rw [hz_56] <;> rfl
    refine jr [bk b_59 31 (xc z_57)] 9 mixed (by simp) <| jh 1 rfl (jX 0 (vs := (xc z_57)) rfl rfl kz kq rfl rfl) ?_
    refine JA.three (i := 0) (j := 7) (k := 8) (by kernel_rfl) ?_ ?_ ?_
    · refine jY rfl rfl (jM [] Tryz.call21 rfl (D_boot) rfl (fun _ _ => trivial)) ?_
      rintro _ _ ⟨_, ⟨l_78a, l_78c, l_78, e_80, f_79, rfl, rfl⟩, rfl⟩
      refine ⟨(by simp), ?_⟩
      refine JA.three (i := 2) (j := 7) (k := 8) (by kernel_rfl) ?_ ?_ ?_
      · refine jY rfl rfl (jM [] Tryz.call22 rfl (Y_named 1 [120]) rfl (fun _ _ => trivial)) ?_
        rintro _ _ ⟨_, ⟨rfl, rfl⟩, rfl⟩
        refine ⟨(by simp), ?_⟩
        refine JA.three (i := 3) (j := 7) (k := 8) (by kernel_rfl) ?_ ?_ ?_
        · refine jY rfl rfl (jM [] Tryz.call20 rfl (Y_sTxAsk z_57 (hI14.lim (by decide) (by decide)) l_78a l_78c l_78 3 f_79 (by omega) (hI14.okT (by decide)) (fun h_ => grow3 (by omega)) (fun h_ => growT3 (by omega)) (⟨1, [120], [], 0, 0, []⟩ : CL) ⟨by (try dsimp only); omega, by (try dsimp only); omega, by (try dsimp only); omega, (show List.length ([120] : Str) ≤ 1048576 by decide), (show List.length ([] : Str) ≤ 1048576 by decide), (show List.length ([] : Str) ≤ 1048576 by decide)⟩) rfl (fun w hw => ⟨hw.see (i := 0) rfl, hw.seeRows 2 rfl⟩)) ?_
          rintro _ _ ⟨_, ⟨z_90, A_91, e_92, ha_93, hb_94, rfl, rfl⟩, rfl⟩
          refine ⟨(by simp), ?_⟩
          refine jI 4 rfl (jF (v := .tuple #[(xv z_90), .agg #[iv A_91.code, iv A_91.n, str A_91.text]]) rfl) <| jI 5 rfl (jb (v := (xv z_90)) rfl rfl) <| jI 6 rfl (jb (v := .agg #[iv A_91.code, iv A_91.n, str A_91.text]) rfl rfl) ?_
          refine kX (i := 7) (j := 8) (by kernel_rfl) ?_ ?_
          · refine jY rfl rfl (jn (z := xz) (cs := xzc) gH rfl) ?_
            rintro _ _ ⟨b_97, rfl, rfl⟩
            refine ⟨(by simp), ?_⟩
            refine jQ (i := 8) ?_
            refine jY rfl rfl (jn (z := .agg #[iv 0, iv 0, str []]) (cs := [iv 0, iv 0, str []]) gG rfl) ?_
            rintro _ _ ⟨b_99, rfl, rfl⟩
            refine ⟨(by simp), ?_⟩
            refine jQ (i := 9) ?_
            refine kF rfl (jT 1 (vs := (xc z_90)) (cs' := (xc z_90)) rfl rfl rfl rfl kq rfl rfl (lb rfl) rfl) ?_
            rintro _ _ rfl
            refine jQ (i := 10) ?_
            refine jx rfl (jT 0 (vs := [iv A_91.code, iv A_91.n, str A_91.text]) (cs' := [iv A_91.code, iv A_91.n, str A_91.text]) rfl rfl rfl rfl kr rfl rfl (lb rfl) rfl) ?_
            rintro _ _ rfl
            refine kZ [0, 0, 0, 0, 0, 0, 0, 0, 0, 0, 0, 0, 0, 0, 0, 0, 0, 0, 0, 0, 0] ?_
            exact kT ⟨l_78, l_78a, l_78c, z_90, A_91, b_97, b_99, f_79, e_80, e_92, ha_93, hb_94, rfl, rfl, rfl, rfl, rfl, rfl,(by kernel_rfl)⟩
          refine jY rfl rfl (jn (z := .agg #[iv 0, iv 0, str []]) (cs := [iv 0, iv 0, str []]) gG rfl) ?_
          rintro _ _ ⟨b_100, rfl, rfl⟩
          refine ⟨(by simp), ?_⟩
          refine jQ (i := 7) ?_
          refine jY rfl rfl (jn (z := xz) (cs := xzc) gH rfl) ?_
          rintro _ _ ⟨b_102, rfl, rfl⟩
          refine ⟨(by simp), ?_⟩
          refine jQ (i := 9) ?_
          refine kF rfl (jT 0 (vs := (xc z_90)) (cs' := (xc z_90)) rfl rfl rfl rfl kq rfl rfl (lb rfl) rfl) ?_
          rintro _ _ rfl
          refine jQ (i := 10) ?_
          refine jx rfl (jT 1 (vs := [iv A_91.code, iv A_91.n, str A_91.text]) (cs' := [iv A_91.code, iv A_91.n, str A_91.text]) rfl rfl rfl rfl kr rfl rfl (lb rfl) rfl) ?_
          rintro _ _ rfl
          refine kZ [1, 0, 0, 0, 0, 0, 0, 0, 0, 0, 0, 0, 0, 0, 0, 0, 0, 0, 0, 0, 0] ?_
          exact kT ⟨l_78, l_78a, l_78c, z_90, A_91, b_102, b_100, f_79, e_80, e_92, ha_93, hb_94, rfl, rfl, rfl, rfl, rfl, rfl,(by kernel_rfl)⟩
        · refine jY rfl rfl (jn (z := xz) (cs := xzc) gH rfl) ?_
          rintro _ _ ⟨b_103, rfl, rfl⟩
          refine ⟨(by simp), ?_⟩
          refine kX (i := 3) (j := 8) (by kernel_rfl) ?_ ?_
          · refine jY rfl rfl (jM [] Tryz.call20 rfl (Y_sTxAsk z_57 (hI14.lim (by decide) (by decide)) l_78a l_78c l_78 3 f_79 (by omega) (hI14.okT (by decide)) (fun h_ => grow3 (by omega)) (fun h_ => growT3 (by omega)) (⟨1, [120], [], 0, 0, []⟩ : CL) ⟨by (try dsimp only); omega, by (try dsimp only); omega, by (try dsimp only); omega, (show List.length ([120] : Str) ≤ 1048576 by decide), (show List.length ([] : Str) ≤ 1048576 by decide), (show List.length ([] : Str) ≤ 1048576 by decide)⟩) rfl (fun w hw => ⟨hw.see (i := 1) rfl, hw.seeRows 3 rfl⟩)) ?_
            rintro _ _ ⟨_, ⟨z_110, A_111, e_112, ha_113, hb_114, rfl, rfl⟩, rfl⟩
            refine ⟨(by simp), ?_⟩
            refine jI 4 rfl (jF (v := .tuple #[(xv z_110), .agg #[iv A_111.code, iv A_111.n, str A_111.text]]) rfl) <| jI 5 rfl (jb (v := (xv z_110)) rfl rfl) <| jI 6 rfl (jb (v := .agg #[iv A_111.code, iv A_111.n, str A_111.text]) rfl rfl) <| jQ (i := 8) ?_
            refine jY rfl rfl (jn (z := .agg #[iv 0, iv 0, str []]) (cs := [iv 0, iv 0, str []]) gG rfl) ?_
            rintro _ _ ⟨b_116, rfl, rfl⟩
            refine ⟨(by simp), ?_⟩
            refine jQ (i := 9) ?_
            refine kF rfl (jT 2 (vs := (xc z_110)) (cs' := (xc z_110)) rfl rfl rfl rfl kq rfl rfl (lb rfl) rfl) ?_
            rintro _ _ rfl
            refine jQ (i := 10) ?_
            refine jx rfl (jT 0 (vs := [iv A_111.code, iv A_111.n, str A_111.text]) (cs' := [iv A_111.code, iv A_111.n, str A_111.text]) rfl rfl rfl rfl kr rfl rfl (lb rfl) rfl) ?_
            rintro _ _ rfl
            refine kZ [0, 1, 0, 0, 0, 0, 0, 0, 0, 0, 0, 0, 0, 0, 0, 0, 0, 0, 0, 0, 0] ?_
            exact kT ⟨l_78, l_78a, l_78c, z_110, A_111, b_103, b_116, f_79, e_80, e_112, ha_113, hb_114, rfl, rfl, rfl, rfl, rfl, rfl,(by kernel_rfl)⟩
          refine jY rfl rfl (jn (z := .agg #[iv 0, iv 0, str []]) (cs := [iv 0, iv 0, str []]) gG rfl) ?_
          rintro _ _ ⟨b_117, rfl, rfl⟩
          refine ⟨(by simp), ?_⟩
          refine jQ (i := 3) ?_
          refine jY rfl rfl (jM [] Tryz.call20 rfl (Y_sTxAsk z_57 (hI14.lim (by decide) (by decide)) l_78a l_78c l_78 3 f_79 (by omega) (hI14.okT (by decide)) (fun h_ => grow3 (by omega)) (fun h_ => growT3 (by omega)) (⟨1, [120], [], 0, 0, []⟩ : CL) ⟨by (try dsimp only); omega, by (try dsimp only); omega, by (try dsimp only); omega, (show List.length ([120] : Str) ≤ 1048576 by decide), (show List.length ([] : Str) ≤ 1048576 by decide), (show List.length ([] : Str) ≤ 1048576 by decide)⟩) rfl (fun w hw => ⟨hw.see (i := 2) rfl, hw.seeRows 4 rfl⟩)) ?_
          rintro _ _ ⟨_, ⟨z_123, A_124, e_125, ha_126, hb_127, rfl, rfl⟩, rfl⟩
          refine ⟨(by simp), ?_⟩
          refine jI 4 rfl (jF (v := .tuple #[(xv z_123), .agg #[iv A_124.code, iv A_124.n, str A_124.text]]) rfl) <| jI 5 rfl (jb (v := (xv z_123)) rfl rfl) <| jI 6 rfl (jb (v := .agg #[iv A_124.code, iv A_124.n, str A_124.text]) rfl rfl) <| jQ (i := 9) ?_
          refine kF rfl (jT 2 (vs := (xc z_123)) (cs' := (xc z_123)) rfl rfl rfl rfl kq rfl rfl (lb rfl) rfl) ?_
          rintro _ _ rfl
          refine jQ (i := 10) ?_
          refine jx rfl (jT 1 (vs := [iv A_124.code, iv A_124.n, str A_124.text]) (cs' := [iv A_124.code, iv A_124.n, str A_124.text]) rfl rfl rfl rfl kr rfl rfl (lb rfl) rfl) ?_
          rintro _ _ rfl
          refine kZ [1, 1, 0, 0, 0, 0, 0, 0, 0, 0, 0, 0, 0, 0, 0, 0, 0, 0, 0, 0, 0] ?_
          exact kT ⟨l_78, l_78a, l_78c, z_123, A_124, b_103, b_117, f_79, e_80, e_125, ha_126, hb_127, rfl, rfl, rfl, rfl, rfl, rfl,(by kernel_rfl)⟩
        refine jY rfl rfl (jn (z := .agg #[iv 0, iv 0, str []]) (cs := [iv 0, iv 0, str []]) gG rfl) ?_
        rintro _ _ ⟨b_128, rfl, rfl⟩
        refine ⟨(by simp), ?_⟩
        refine kX (i := 3) (j := 7) (by kernel_rfl) ?_ ?_
        · refine jY rfl rfl (jM [] Tryz.call20 rfl (Y_sTxAsk z_57 (hI14.lim (by decide) (by decide)) l_78a l_78c l_78 3 f_79 (by omega) (hI14.okT (by decide)) (fun h_ => grow3 (by omega)) (fun h_ => growT3 (by omega)) (⟨1, [120], [], 0, 0, []⟩ : CL) ⟨by (try dsimp only); omega, by (try dsimp only); omega, by (try dsimp only); omega, (show List.length ([120] : Str) ≤ 1048576 by decide), (show List.length ([] : Str) ≤ 1048576 by decide), (show List.length ([] : Str) ≤ 1048576 by decide)⟩) rfl (fun w hw => ⟨hw.see (i := 1) rfl, hw.seeRows 3 rfl⟩)) ?_
          rintro _ _ ⟨_, ⟨z_135, A_136, e_137, ha_138, hb_139, rfl, rfl⟩, rfl⟩
          refine ⟨(by simp), ?_⟩
          refine jI 4 rfl (jF (v := .tuple #[(xv z_135), .agg #[iv A_136.code, iv A_136.n, str A_136.text]]) rfl) <| jI 5 rfl (jb (v := (xv z_135)) rfl rfl) <| jI 6 rfl (jb (v := .agg #[iv A_136.code, iv A_136.n, str A_136.text]) rfl rfl) <| jQ (i := 7) ?_
          refine jY rfl rfl (jn (z := xz) (cs := xzc) gH rfl) ?_
          rintro _ _ ⟨b_141, rfl, rfl⟩
          refine ⟨(by simp), ?_⟩
          refine jQ (i := 9) ?_
          refine kF rfl (jT 0 (vs := (xc z_135)) (cs' := (xc z_135)) rfl rfl rfl rfl kq rfl rfl (lb rfl) rfl) ?_
          rintro _ _ rfl
          refine jQ (i := 10) ?_
          refine jx rfl (jT 2 (vs := [iv A_136.code, iv A_136.n, str A_136.text]) (cs' := [iv A_136.code, iv A_136.n, str A_136.text]) rfl rfl rfl rfl kr rfl rfl (lb rfl) rfl) ?_
          rintro _ _ rfl
          refine kZ [2, 0, 0, 0, 0, 0, 0, 0, 0, 0, 0, 0, 0, 0, 0, 0, 0, 0, 0, 0, 0] ?_
          exact kT ⟨l_78, l_78a, l_78c, z_135, A_136, b_141, b_128, f_79, e_80, e_137, ha_138, hb_139, rfl, rfl, rfl, rfl, rfl, rfl,(by kernel_rfl)⟩
        refine jY rfl rfl (jn (z := xz) (cs := xzc) gH rfl) ?_
        rintro _ _ ⟨b_142, rfl, rfl⟩
        refine ⟨(by simp), ?_⟩
        refine jQ (i := 3) ?_
        refine jY rfl rfl (jM [] Tryz.call20 rfl (Y_sTxAsk z_57 (hI14.lim (by decide) (by decide)) l_78a l_78c l_78 3 f_79 (by omega) (hI14.okT (by decide)) (fun h_ => grow3 (by omega)) (fun h_ => growT3 (by omega)) (⟨1, [120], [], 0, 0, []⟩ : CL) ⟨by (try dsimp only); omega, by (try dsimp only); omega, by (try dsimp only); omega, (show List.length ([120] : Str) ≤ 1048576 by decide), (show List.length ([] : Str) ≤ 1048576 by decide), (show List.length ([] : Str) ≤ 1048576 by decide)⟩) rfl (fun w hw => ⟨hw.see (i := 2) rfl, hw.seeRows 4 rfl⟩)) ?_
        rintro _ _ ⟨_, ⟨z_148, A_149, e_150, ha_151, hb_152, rfl, rfl⟩, rfl⟩
        refine ⟨(by simp), ?_⟩
        refine jI 4 rfl (jF (v := .tuple #[(xv z_148), .agg #[iv A_149.code, iv A_149.n, str A_149.text]]) rfl) <| jI 5 rfl (jb (v := (xv z_148)) rfl rfl) <| jI 6 rfl (jb (v := .agg #[iv A_149.code, iv A_149.n, str A_149.text]) rfl rfl) <| jQ (i := 9) ?_
        refine kF rfl (jT 1 (vs := (xc z_148)) (cs' := (xc z_148)) rfl rfl rfl rfl kq rfl rfl (lb rfl) rfl) ?_
        rintro _ _ rfl
        refine jQ (i := 10) ?_
        refine jx rfl (jT 2 (vs := [iv A_149.code, iv A_149.n, str A_149.text]) (cs' := [iv A_149.code, iv A_149.n, str A_149.text]) rfl rfl rfl rfl kr rfl rfl (lb rfl) rfl) ?_
        rintro _ _ rfl
        refine kZ [2, 1, 0, 0, 0, 0, 0, 0, 0, 0, 0, 0, 0, 0, 0, 0, 0, 0, 0, 0, 0] ?_
        exact kT ⟨l_78, l_78a, l_78c, z_148, A_149, b_142, b_128, f_79, e_80, e_150, ha_151, hb_152, rfl, rfl, rfl, rfl, rfl, rfl,(by kernel_rfl)⟩
      · refine jY rfl rfl (jn (z := xz) (cs := xzc) gH rfl) ?_
        rintro _ _ ⟨b_153, rfl, rfl⟩
        refine ⟨(by simp), ?_⟩
        refine kX (i := 2) (j := 8) (by kernel_rfl) ?_ ?_
        · refine jY rfl rfl (jM [] Tryz.call22 rfl (Y_named 1 [120]) rfl (fun _ _ => trivial)) ?_
          rintro _ _ ⟨_, ⟨rfl, rfl⟩, rfl⟩
          refine ⟨(by simp), ?_⟩
          refine kX (i := 3) (j := 8) (by kernel_rfl) ?_ ?_
          · refine jY rfl rfl (jM [] Tryz.call20 rfl (Y_sTxAsk z_57 (hI14.lim (by decide) (by decide)) l_78a l_78c l_78 3 f_79 (by omega) (hI14.okT (by decide)) (fun h_ => grow3 (by omega)) (fun h_ => growT3 (by omega)) (⟨1, [120], [], 0, 0, []⟩ : CL) ⟨by (try dsimp only); omega, by (try dsimp only); omega, by (try dsimp only); omega, (show List.length ([120] : Str) ≤ 1048576 by decide), (show List.length ([] : Str) ≤ 1048576 by decide), (show List.length ([] : Str) ≤ 1048576 by decide)⟩) rfl (fun w hw => ⟨hw.see (i := 1) rfl, hw.seeRows 3 rfl⟩)) ?_
            rintro _ _ ⟨_, ⟨z_161, A_162, e_163, ha_164, hb_165, rfl, rfl⟩, rfl⟩
            refine ⟨(by simp), ?_⟩
            refine jI 4 rfl (jF (v := .tuple #[(xv z_161), .agg #[iv A_162.code, iv A_162.n, str A_162.text]]) rfl) <| jI 5 rfl (jb (v := (xv z_161)) rfl rfl) <| jI 6 rfl (jb (v := .agg #[iv A_162.code, iv A_162.n, str A_162.text]) rfl rfl) <| jQ (i := 8) ?_
            refine jY rfl rfl (jn (z := .agg #[iv 0, iv 0, str []]) (cs := [iv 0, iv 0, str []]) gG rfl) ?_
            rintro _ _ ⟨b_167, rfl, rfl⟩
            refine ⟨(by simp), ?_⟩
            refine jQ (i := 9) ?_
            refine kF rfl (jT 2 (vs := (xc z_161)) (cs' := (xc z_161)) rfl rfl rfl rfl kq rfl rfl (lb rfl) rfl) ?_
            rintro _ _ rfl
            refine jQ (i := 10) ?_
            refine jx rfl (jT 0 (vs := [iv A_162.code, iv A_162.n, str A_162.text]) (cs' := [iv A_162.code, iv A_162.n, str A_162.text]) rfl rfl rfl rfl kr rfl rfl (lb rfl) rfl) ?_
            rintro _ _ rfl
            refine kZ [0, 1, 0, 0, 0, 0, 0, 0, 0, 0, 0, 0, 0, 0, 0, 0, 0, 0, 0, 0, 0] ?_
            exact kT ⟨l_78, l_78a, l_78c, z_161, A_162, b_153, b_167, f_79, e_80, e_163, ha_164, hb_165, rfl, rfl, rfl, rfl, rfl, rfl,(by kernel_rfl)⟩
          refine jY rfl rfl (jn (z := .agg #[iv 0, iv 0, str []]) (cs := [iv 0, iv 0, str []]) gG rfl) ?_
          rintro _ _ ⟨b_168, rfl, rfl⟩
          refine ⟨(by simp), ?_⟩
          refine jQ (i := 3) ?_
          refine jY rfl rfl (jM [] Tryz.call20 rfl (Y_sTxAsk z_57 (hI14.lim (by decide) (by decide)) l_78a l_78c l_78 3 f_79 (by omega) (hI14.okT (by decide)) (fun h_ => grow3 (by omega)) (fun h_ => growT3 (by omega)) (⟨1, [120], [], 0, 0, []⟩ : CL) ⟨by (try dsimp only); omega, by (try dsimp only); omega, by (try dsimp only); omega, (show List.length ([120] : Str) ≤ 1048576 by decide), (show List.length ([] : Str) ≤ 1048576 by decide), (show List.length ([] : Str) ≤ 1048576 by decide)⟩) rfl (fun w hw => ⟨hw.see (i := 2) rfl, hw.seeRows 4 rfl⟩)) ?_
          rintro _ _ ⟨_, ⟨z_174, A_175, e_176, ha_177, hb_178, rfl, rfl⟩, rfl⟩
          refine ⟨(by simp), ?_⟩
          refine jI 4 rfl (jF (v := .tuple #[(xv z_174), .agg #[iv A_175.code, iv A_175.n, str A_175.text]]) rfl) <| jI 5 rfl (jb (v := (xv z_174)) rfl rfl) <| jI 6 rfl (jb (v := .agg #[iv A_175.code, iv A_175.n, str A_175.text]) rfl rfl) <| jQ (i := 9) ?_
          refine kF rfl (jT 2 (vs := (xc z_174)) (cs' := (xc z_174)) rfl rfl rfl rfl kq rfl rfl (lb rfl) rfl) ?_
          rintro _ _ rfl
          refine jQ (i := 10) ?_
          refine jx rfl (jT 1 (vs := [iv A_175.code, iv A_175.n, str A_175.text]) (cs' := [iv A_175.code, iv A_175.n, str A_175.text]) rfl rfl rfl rfl kr rfl rfl (lb rfl) rfl) ?_
          rintro _ _ rfl
          refine kZ [1, 1, 0, 0, 0, 0, 0, 0, 0, 0, 0, 0, 0, 0, 0, 0, 0, 0, 0, 0, 0] ?_
          exact kT ⟨l_78, l_78a, l_78c, z_174, A_175, b_153, b_168, f_79, e_80, e_176, ha_177, hb_178, rfl, rfl, rfl, rfl, rfl, rfl,(by kernel_rfl)⟩
        refine jY rfl rfl (jn (z := .agg #[iv 0, iv 0, str []]) (cs := [iv 0, iv 0, str []]) gG rfl) ?_
        rintro _ _ ⟨b_179, rfl, rfl⟩
        refine ⟨(by simp), ?_⟩
        refine jQ (i := 2) ?_
        refine jY rfl rfl (jM [] Tryz.call22 rfl (Y_named 1 [120]) rfl (fun _ _ => trivial)) ?_
        rintro _ _ ⟨_, ⟨rfl, rfl⟩, rfl⟩
        refine ⟨(by simp), ?_⟩
        refine jQ (i := 3) ?_
        refine jY rfl rfl (jM [] Tryz.call20 rfl (Y_sTxAsk z_57 (hI14.lim (by decide) (by decide)) l_78a l_78c l_78 3 f_79 (by omega) (hI14.okT (by decide)) (fun h_ => grow3 (by omega)) (fun h_ => growT3 (by omega)) (⟨1, [120], [], 0, 0, []⟩ : CL) ⟨by (try dsimp only); omega, by (try dsimp only); omega, by (try dsimp only); omega, (show List.length ([120] : Str) ≤ 1048576 by decide), (show List.length ([] : Str) ≤ 1048576 by decide), (show List.length ([] : Str) ≤ 1048576 by decide)⟩) rfl (fun w hw => ⟨hw.see (i := 2) rfl, hw.seeRows 4 rfl⟩)) ?_
        rintro _ _ ⟨_, ⟨z_185, A_186, e_187, ha_188, hb_189, rfl, rfl⟩, rfl⟩
        refine ⟨(by simp), ?_⟩
        refine jI 4 rfl (jF (v := .tuple #[(xv z_185), .agg #[iv A_186.code, iv A_186.n, str A_186.text]]) rfl) <| jI 5 rfl (jb (v := (xv z_185)) rfl rfl) <| jI 6 rfl (jb (v := .agg #[iv A_186.code, iv A_186.n, str A_186.text]) rfl rfl) <| jQ (i := 9) ?_
        refine kF rfl (jT 2 (vs := (xc z_185)) (cs' := (xc z_185)) rfl rfl rfl rfl kq rfl rfl (lb rfl) rfl) ?_
        rintro _ _ rfl
        refine jQ (i := 10) ?_
        refine jx rfl (jT 1 (vs := [iv A_186.code, iv A_186.n, str A_186.text]) (cs' := [iv A_186.code, iv A_186.n, str A_186.text]) rfl rfl rfl rfl kr rfl rfl (lb rfl) rfl) ?_
        rintro _ _ rfl
        refine kZ [1, 1, 0, 0, 0, 0, 0, 0, 0, 0, 0, 0, 0, 0, 0, 0, 0, 0, 0, 0, 0] ?_
        exact kT ⟨l_78, l_78a, l_78c, z_185, A_186, b_153, b_179, f_79, e_80, e_187, ha_188, hb_189, rfl, rfl, rfl, rfl, rfl, rfl,(by kernel_rfl)⟩
      refine jY rfl rfl (jn (z := .agg #[iv 0, iv 0, str []]) (cs := [iv 0, iv 0, str []]) gG rfl) ?_
      rintro _ _ ⟨b_190, rfl, rfl⟩
      refine ⟨(by simp), ?_⟩
      refine kX (i := 2) (j := 7) (by kernel_rfl) ?_ ?_
      · refine jY rfl rfl (jM [] Tryz.call22 rfl (Y_named 1 [120]) rfl (fun _ _ => trivial)) ?_
        rintro _ _ ⟨_, ⟨rfl, rfl⟩, rfl⟩
        refine ⟨(by simp), ?_⟩
        refine kX (i := 3) (j := 7) (by kernel_rfl) ?_ ?_
        · refine jY rfl rfl (jM [] Tryz.call20 rfl (Y_sTxAsk z_57 (hI14.lim (by decide) (by decide)) l_78a l_78c l_78 3 f_79 (by omega) (hI14.okT (by decide)) (fun h_ => grow3 (by omega)) (fun h_ => growT3 (by omega)) (⟨1, [120], [], 0, 0, []⟩ : CL) ⟨by (try dsimp only); omega, by (try dsimp only); omega, by (try dsimp only); omega, (show List.length ([120] : Str) ≤ 1048576 by decide), (show List.length ([] : Str) ≤ 1048576 by decide), (show List.length ([] : Str) ≤ 1048576 by decide)⟩) rfl (fun w hw => ⟨hw.see (i := 1) rfl, hw.seeRows 3 rfl⟩)) ?_
          rintro _ _ ⟨_, ⟨z_198, A_199, e_200, ha_201, hb_202, rfl, rfl⟩, rfl⟩
          refine ⟨(by simp), ?_⟩
          refine jI 4 rfl (jF (v := .tuple #[(xv z_198), .agg #[iv A_199.code, iv A_199.n, str A_199.text]]) rfl) <| jI 5 rfl (jb (v := (xv z_198)) rfl rfl) <| jI 6 rfl (jb (v := .agg #[iv A_199.code, iv A_199.n, str A_199.text]) rfl rfl) <| jQ (i := 7) ?_
          refine jY rfl rfl (jn (z := xz) (cs := xzc) gH rfl) ?_
          rintro _ _ ⟨b_204, rfl, rfl⟩
          refine ⟨(by simp), ?_⟩
          refine jQ (i := 9) ?_
          refine kF rfl (jT 0 (vs := (xc z_198)) (cs' := (xc z_198)) rfl rfl rfl rfl kq rfl rfl (lb rfl) rfl) ?_
          rintro _ _ rfl
          refine jQ (i := 10) ?_
          refine jx rfl (jT 2 (vs := [iv A_199.code, iv A_199.n, str A_199.text]) (cs' := [iv A_199.code, iv A_199.n, str A_199.text]) rfl rfl rfl rfl kr rfl rfl (lb rfl) rfl) ?_
          rintro _ _ rfl
          refine kZ [2, 0, 0, 0, 0, 0, 0, 0, 0, 0, 0, 0, 0, 0, 0, 0, 0, 0, 0, 0, 0] ?_
          exact kT ⟨l_78, l_78a, l_78c, z_198, A_199, b_204, b_190, f_79, e_80, e_200, ha_201, hb_202, rfl, rfl, rfl, rfl, rfl, rfl,(by kernel_rfl)⟩
        refine jY rfl rfl (jn (z := xz) (cs := xzc) gH rfl) ?_
        rintro _ _ ⟨b_205, rfl, rfl⟩
        refine ⟨(by simp), ?_⟩
        refine jQ (i := 3) ?_
        refine jY rfl rfl (jM [] Tryz.call20 rfl (Y_sTxAsk z_57 (hI14.lim (by decide) (by decide)) l_78a l_78c l_78 3 f_79 (by omega) (hI14.okT (by decide)) (fun h_ => grow3 (by omega)) (fun h_ => growT3 (by omega)) (⟨1, [120], [], 0, 0, []⟩ : CL) ⟨by (try dsimp only); omega, by (try dsimp only); omega, by (try dsimp only); omega, (show List.length ([120] : Str) ≤ 1048576 by decide), (show List.length ([] : Str) ≤ 1048576 by decide), (show List.length ([] : Str) ≤ 1048576 by decide)⟩) rfl (fun w hw => ⟨hw.see (i := 2) rfl, hw.seeRows 4 rfl⟩)) ?_
        rintro _ _ ⟨_, ⟨z_211, A_212, e_213, ha_214, hb_215, rfl, rfl⟩, rfl⟩
        refine ⟨(by simp), ?_⟩
        refine jI 4 rfl (jF (v := .tuple #[(xv z_211), .agg #[iv A_212.code, iv A_212.n, str A_212.text]]) rfl) <| jI 5 rfl (jb (v := (xv z_211)) rfl rfl) <| jI 6 rfl (jb (v := .agg #[iv A_212.code, iv A_212.n, str A_212.text]) rfl rfl) <| jQ (i := 9) ?_
        refine kF rfl (jT 1 (vs := (xc z_211)) (cs' := (xc z_211)) rfl rfl rfl rfl kq rfl rfl (lb rfl) rfl) ?_
        rintro _ _ rfl
        refine jQ (i := 10) ?_
        refine jx rfl (jT 2 (vs := [iv A_212.code, iv A_212.n, str A_212.text]) (cs' := [iv A_212.code, iv A_212.n, str A_212.text]) rfl rfl rfl rfl kr rfl rfl (lb rfl) rfl) ?_
        rintro _ _ rfl
        refine kZ [2, 1, 0, 0, 0, 0, 0, 0, 0, 0, 0, 0, 0, 0, 0, 0, 0, 0, 0, 0, 0] ?_
        exact kT ⟨l_78, l_78a, l_78c, z_211, A_212, b_205, b_190, f_79, e_80, e_213, ha_214, hb_215, rfl, rfl, rfl, rfl, rfl, rfl,(by kernel_rfl)⟩
      refine jY rfl rfl (jn (z := xz) (cs := xzc) gH rfl) ?_
      rintro _ _ ⟨b_216, rfl, rfl⟩
      refine ⟨(by simp), ?_⟩
      refine jQ (i := 2) ?_
      refine jY rfl rfl (jM [] Tryz.call22 rfl (Y_named 1 [120]) rfl (fun _ _ => trivial)) ?_
      rintro _ _ ⟨_, ⟨rfl, rfl⟩, rfl⟩
      refine ⟨(by simp), ?_⟩
      refine jQ (i := 3) ?_
      refine jY rfl rfl (jM [] Tryz.call20 rfl (Y_sTxAsk z_57 (hI14.lim (by decide) (by decide)) l_78a l_78c l_78 3 f_79 (by omega) (hI14.okT (by decide)) (fun h_ => grow3 (by omega)) (fun h_ => growT3 (by omega)) (⟨1, [120], [], 0, 0, []⟩ : CL) ⟨by (try dsimp only); omega, by (try dsimp only); omega, by (try dsimp only); omega, (show List.length ([120] : Str) ≤ 1048576 by decide), (show List.length ([] : Str) ≤ 1048576 by decide), (show List.length ([] : Str) ≤ 1048576 by decide)⟩) rfl (fun w hw => ⟨hw.see (i := 2) rfl, hw.seeRows 4 rfl⟩)) ?_
      rintro _ _ ⟨_, ⟨z_222, A_223, e_224, ha_225, hb_226, rfl, rfl⟩, rfl⟩
      refine ⟨(by simp), ?_⟩
      refine jI 4 rfl (jF (v := .tuple #[(xv z_222), .agg #[iv A_223.code, iv A_223.n, str A_223.text]]) rfl) <| jI 5 rfl (jb (v := (xv z_222)) rfl rfl) <| jI 6 rfl (jb (v := .agg #[iv A_223.code, iv A_223.n, str A_223.text]) rfl rfl) <| jQ (i := 9) ?_
      refine kF rfl (jT 1 (vs := (xc z_222)) (cs' := (xc z_222)) rfl rfl rfl rfl kq rfl rfl (lb rfl) rfl) ?_
      rintro _ _ rfl
      refine jQ (i := 10) ?_
      refine jx rfl (jT 2 (vs := [iv A_223.code, iv A_223.n, str A_223.text]) (cs' := [iv A_223.code, iv A_223.n, str A_223.text]) rfl rfl rfl rfl kr rfl rfl (lb rfl) rfl) ?_
      rintro _ _ rfl
      refine kZ [2, 1, 0, 0, 0, 0, 0, 0, 0, 0, 0, 0, 0, 0, 0, 0, 0, 0, 0, 0, 0] ?_
      exact kT ⟨l_78, l_78a, l_78c, z_222, A_223, b_216, b_190, f_79, e_80, e_224, ha_225, hb_226, rfl, rfl, rfl, rfl, rfl, rfl,(by kernel_rfl)⟩
    · refine jY rfl rfl (jn (z := xz) (cs := xzc) gH rfl) ?_
      rintro _ _ ⟨b_227, rfl, rfl⟩
      refine ⟨(by simp), ?_⟩
      refine kX (i := 0) (j := 8) (by kernel_rfl) ?_ ?_
      · refine jY rfl rfl (jM [] Tryz.call21 rfl (D_boot) rfl (fun _ _ => trivial)) ?_
        rintro _ _ ⟨_, ⟨l_232a, l_232c, l_232, e_234, f_233, rfl, rfl⟩, rfl⟩
        refine ⟨(by simp), ?_⟩
        refine kX (i := 2) (j := 8) (by kernel_rfl) ?_ ?_
        · refine jY rfl rfl (jM [] Tryz.call22 rfl (Y_named 1 [120]) rfl (fun _ _ => trivial)) ?_
          rintro _ _ ⟨_, ⟨rfl, rfl⟩, rfl⟩
          refine ⟨(by simp), ?_⟩
          refine kX (i := 3) (j := 8) (by kernel_rfl) ?_ ?_
          · refine jY rfl rfl (jM [] Tryz.call20 rfl (Y_sTxAsk z_57 (hI14.lim (by decide) (by decide)) l_232a l_232c l_232 3 f_233 (by omega) (hI14.okT (by decide)) (fun h_ => grow3 (by omega)) (fun h_ => growT3 (by omega)) (⟨1, [120], [], 0, 0, []⟩ : CL) ⟨by (try dsimp only); omega, by (try dsimp only); omega, by (try dsimp only); omega, (show List.length ([120] : Str) ≤ 1048576 by decide), (show List.length ([] : Str) ≤ 1048576 by decide), (show List.length ([] : Str) ≤ 1048576 by decide)⟩) rfl (fun w hw => ⟨hw.see (i := 0) rfl, hw.seeRows 3 rfl⟩)) ?_
            rintro _ _ ⟨_, ⟨z_242, A_243, e_244, ha_245, hb_246, rfl, rfl⟩, rfl⟩
            refine ⟨(by simp), ?_⟩
            refine jI 4 rfl (jF (v := .tuple #[(xv z_242), .agg #[iv A_243.code, iv A_243.n, str A_243.text]]) rfl) <| jI 5 rfl (jb (v := (xv z_242)) rfl rfl) <| jI 6 rfl (jb (v := .agg #[iv A_243.code, iv A_243.n, str A_243.text]) rfl rfl) <| jQ (i := 8) ?_
            refine jY rfl rfl (jn (z := .agg #[iv 0, iv 0, str []]) (cs := [iv 0, iv 0, str []]) gG rfl) ?_
            rintro _ _ ⟨b_248, rfl, rfl⟩
            refine ⟨(by simp), ?_⟩
            refine jQ (i := 9) ?_
            refine kF rfl (jT 3 (vs := (xc z_242)) (cs' := (xc z_242)) rfl rfl rfl rfl kq rfl rfl (lb rfl) rfl) ?_
            rintro _ _ rfl
            refine jQ (i := 10) ?_
            refine jx rfl (jT 0 (vs := [iv A_243.code, iv A_243.n, str A_243.text]) (cs' := [iv A_243.code, iv A_243.n, str A_243.text]) rfl rfl rfl rfl kr rfl rfl (lb rfl) rfl) ?_
            rintro _ _ rfl
            refine kZ [0, 2, 0, 0, 0, 0, 0, 0, 0, 0, 0, 0, 0, 0, 0, 0, 0, 0, 0, 0, 0] ?_
            exact kT ⟨l_232, l_232a, l_232c, z_242, A_243, b_227, b_248, f_233, e_234, e_244, ha_245, hb_246, rfl, rfl, rfl, rfl, rfl, rfl,(by kernel_rfl)⟩
          refine jY rfl rfl (jn (z := .agg #[iv 0, iv 0, str []]) (cs := [iv 0, iv 0, str []]) gG rfl) ?_
          rintro _ _ ⟨b_249, rfl, rfl⟩
          refine ⟨(by simp), ?_⟩
          refine jQ (i := 3) ?_
          refine jY rfl rfl (jM [] Tryz.call20 rfl (Y_sTxAsk z_57 (hI14.lim (by decide) (by decide)) l_232a l_232c l_232 3 f_233 (by omega) (hI14.okT (by decide)) (fun h_ => grow3 (by omega)) (fun h_ => growT3 (by omega)) (⟨1, [120], [], 0, 0, []⟩ : CL) ⟨by (try dsimp only); omega, by (try dsimp only); omega, by (try dsimp only); omega, (show List.length ([120] : Str) ≤ 1048576 by decide), (show List.length ([] : Str) ≤ 1048576 by decide), (show List.length ([] : Str) ≤ 1048576 by decide)⟩) rfl (fun w hw => ⟨hw.see (i := 1) rfl, hw.seeRows 4 rfl⟩)) ?_
          rintro _ _ ⟨_, ⟨z_255, A_256, e_257, ha_258, hb_259, rfl, rfl⟩, rfl⟩
          refine ⟨(by simp), ?_⟩
          refine jI 4 rfl (jF (v := .tuple #[(xv z_255), .agg #[iv A_256.code, iv A_256.n, str A_256.text]]) rfl) <| jI 5 rfl (jb (v := (xv z_255)) rfl rfl) <| jI 6 rfl (jb (v := .agg #[iv A_256.code, iv A_256.n, str A_256.text]) rfl rfl) <| jQ (i := 9) ?_
          refine kF rfl (jT 3 (vs := (xc z_255)) (cs' := (xc z_255)) rfl rfl rfl rfl kq rfl rfl (lb rfl) rfl) ?_
          rintro _ _ rfl
          refine jQ (i := 10) ?_
          refine jx rfl (jT 1 (vs := [iv A_256.code, iv A_256.n, str A_256.text]) (cs' := [iv A_256.code, iv A_256.n, str A_256.text]) rfl rfl rfl rfl kr rfl rfl (lb rfl) rfl) ?_
          rintro _ _ rfl
          refine kZ [1, 2, 0, 0, 0, 0, 0, 0, 0, 0, 0, 0, 0, 0, 0, 0, 0, 0, 0, 0, 0] ?_
          exact kT ⟨l_232, l_232a, l_232c, z_255, A_256, b_227, b_249, f_233, e_234, e_257, ha_258, hb_259, rfl, rfl, rfl, rfl, rfl, rfl,(by kernel_rfl)⟩
        refine jY rfl rfl (jn (z := .agg #[iv 0, iv 0, str []]) (cs := [iv 0, iv 0, str []]) gG rfl) ?_
        rintro _ _ ⟨b_260, rfl, rfl⟩
        refine ⟨(by simp), ?_⟩
        refine jQ (i := 2) ?_
        refine jY rfl rfl (jM [] Tryz.call22 rfl (Y_named 1 [120]) rfl (fun _ _ => trivial)) ?_
        rintro _ _ ⟨_, ⟨rfl, rfl⟩, rfl⟩
        refine ⟨(by simp), ?_⟩
        refine jQ (i := 3) ?_
        refine jY rfl rfl (jM [] Tryz.call20 rfl (Y_sTxAsk z_57 (hI14.lim (by decide) (by decide)) l_232a l_232c l_232 3 f_233 (by omega) (hI14.okT (by decide)) (fun h_ => grow3 (by omega)) (fun h_ => growT3 (by omega)) (⟨1, [120], [], 0, 0, []⟩ : CL) ⟨by (try dsimp only); omega, by (try dsimp only); omega, by (try dsimp only); omega, (show List.length ([120] : Str) ≤ 1048576 by decide), (show List.length ([] : Str) ≤ 1048576 by decide), (show List.length ([] : Str) ≤ 1048576 by decide)⟩) rfl (fun w hw => ⟨hw.see (i := 1) rfl, hw.seeRows 4 rfl⟩)) ?_
        rintro _ _ ⟨_, ⟨z_266, A_267, e_268, ha_269, hb_270, rfl, rfl⟩, rfl⟩
        refine ⟨(by simp), ?_⟩
        refine jI 4 rfl (jF (v := .tuple #[(xv z_266), .agg #[iv A_267.code, iv A_267.n, str A_267.text]]) rfl) <| jI 5 rfl (jb (v := (xv z_266)) rfl rfl) <| jI 6 rfl (jb (v := .agg #[iv A_267.code, iv A_267.n, str A_267.text]) rfl rfl) <| jQ (i := 9) ?_
        refine kF rfl (jT 3 (vs := (xc z_266)) (cs' := (xc z_266)) rfl rfl rfl rfl kq rfl rfl (lb rfl) rfl) ?_
        rintro _ _ rfl
        refine jQ (i := 10) ?_
        refine jx rfl (jT 1 (vs := [iv A_267.code, iv A_267.n, str A_267.text]) (cs' := [iv A_267.code, iv A_267.n, str A_267.text]) rfl rfl rfl rfl kr rfl rfl (lb rfl) rfl) ?_
        rintro _ _ rfl
        refine kZ [1, 2, 0, 0, 0, 0, 0, 0, 0, 0, 0, 0, 0, 0, 0, 0, 0, 0, 0, 0, 0] ?_
        exact kT ⟨l_232, l_232a, l_232c, z_266, A_267, b_227, b_260, f_233, e_234, e_268, ha_269, hb_270, rfl, rfl, rfl, rfl, rfl, rfl,(by kernel_rfl)⟩
      refine jY rfl rfl (jn (z := .agg #[iv 0, iv 0, str []]) (cs := [iv 0, iv 0, str []]) gG rfl) ?_
      rintro _ _ ⟨b_271, rfl, rfl⟩
      refine ⟨(by simp), ?_⟩
      refine jQ (i := 0) ?_
      refine jY rfl rfl (jM [] Tryz.call21 rfl (D_boot) rfl (fun _ _ => trivial)) ?_
      rintro _ _ ⟨_, ⟨l_275a, l_275c, l_275, e_277, f_276, rfl, rfl⟩, rfl⟩
      refine ⟨(by simp), ?_⟩
      refine jQ (i := 2) ?_
      refine jY rfl rfl (jM [] Tryz.call22 rfl (Y_named 1 [120]) rfl (fun _ _ => trivial)) ?_
      rintro _ _ ⟨_, ⟨rfl, rfl⟩, rfl⟩
      refine ⟨(by simp), ?_⟩
      refine jQ (i := 3) ?_
      refine jY rfl rfl (jM [] Tryz.call20 rfl (Y_sTxAsk z_57 (hI14.lim (by decide) (by decide)) l_275a l_275c l_275 3 f_276 (by omega) (hI14.okT (by decide)) (fun h_ => grow3 (by omega)) (fun h_ => growT3 (by omega)) (⟨1, [120], [], 0, 0, []⟩ : CL) ⟨by (try dsimp only); omega, by (try dsimp only); omega, by (try dsimp only); omega, (show List.length ([120] : Str) ≤ 1048576 by decide), (show List.length ([] : Str) ≤ 1048576 by decide), (show List.length ([] : Str) ≤ 1048576 by decide)⟩) rfl (fun w hw => ⟨hw.see (i := 0) rfl, hw.seeRows 4 rfl⟩)) ?_
      rintro _ _ ⟨_, ⟨z_283, A_284, e_285, ha_286, hb_287, rfl, rfl⟩, rfl⟩
      refine ⟨(by simp), ?_⟩
      refine jI 4 rfl (jF (v := .tuple #[(xv z_283), .agg #[iv A_284.code, iv A_284.n, str A_284.text]]) rfl) <| jI 5 rfl (jb (v := (xv z_283)) rfl rfl) <| jI 6 rfl (jb (v := .agg #[iv A_284.code, iv A_284.n, str A_284.text]) rfl rfl) <| jQ (i := 9) ?_
      refine kF rfl (jT 3 (vs := (xc z_283)) (cs' := (xc z_283)) rfl rfl rfl rfl kq rfl rfl (lb rfl) rfl) ?_
      rintro _ _ rfl
      refine jQ (i := 10) ?_
      refine jx rfl (jT 2 (vs := [iv A_284.code, iv A_284.n, str A_284.text]) (cs' := [iv A_284.code, iv A_284.n, str A_284.text]) rfl rfl rfl rfl kr rfl rfl (lb rfl) rfl) ?_
      rintro _ _ rfl
      refine kZ [2, 2, 0, 0, 0, 0, 0, 0, 0, 0, 0, 0, 0, 0, 0, 0, 0, 0, 0, 0, 0] ?_
      exact kT ⟨l_275, l_275a, l_275c, z_283, A_284, b_227, b_271, f_276, e_277, e_285, ha_286, hb_287, rfl, rfl, rfl, rfl, rfl, rfl,(by kernel_rfl)⟩
    refine jY rfl rfl (jn (z := .agg #[iv 0, iv 0, str []]) (cs := [iv 0, iv 0, str []]) gG rfl) ?_
    rintro _ _ ⟨b_288, rfl, rfl⟩
    refine ⟨(by simp), ?_⟩
    refine kX (i := 0) (j := 7) (by kernel_rfl) ?_ ?_
    · refine jY rfl rfl (jM [] Tryz.call21 rfl (D_boot) rfl (fun _ _ => trivial)) ?_
      rintro _ _ ⟨_, ⟨l_293a, l_293c, l_293, e_295, f_294, rfl, rfl⟩, rfl⟩
      refine ⟨(by simp), ?_⟩
      refine kX (i := 2) (j := 7) (by kernel_rfl) ?_ ?_
      · refine jY rfl rfl (jM [] Tryz.call22 rfl (Y_named 1 [120]) rfl (fun _ _ => trivial)) ?_
        rintro _ _ ⟨_, ⟨rfl, rfl⟩, rfl⟩
        refine ⟨(by simp), ?_⟩
        refine kX (i := 3) (j := 7) (by kernel_rfl) ?_ ?_
        · refine jY rfl rfl (jM [] Tryz.call20 rfl (Y_sTxAsk z_57 (hI14.lim (by decide) (by decide)) l_293a l_293c l_293 3 f_294 (by omega) (hI14.okT (by decide)) (fun h_ => grow3 (by omega)) (fun h_ => growT3 (by omega)) (⟨1, [120], [], 0, 0, []⟩ : CL) ⟨by (try dsimp only); omega, by (try dsimp only); omega, by (try dsimp only); omega, (show List.length ([120] : Str) ≤ 1048576 by decide), (show List.length ([] : Str) ≤ 1048576 by decide), (show List.length ([] : Str) ≤ 1048576 by decide)⟩) rfl (fun w hw => ⟨hw.see (i := 0) rfl, hw.seeRows 3 rfl⟩)) ?_
          rintro _ _ ⟨_, ⟨z_303, A_304, e_305, ha_306, hb_307, rfl, rfl⟩, rfl⟩
          refine ⟨(by simp), ?_⟩
          refine jI 4 rfl (jF (v := .tuple #[(xv z_303), .agg #[iv A_304.code, iv A_304.n, str A_304.text]]) rfl) <| jI 5 rfl (jb (v := (xv z_303)) rfl rfl) <| jI 6 rfl (jb (v := .agg #[iv A_304.code, iv A_304.n, str A_304.text]) rfl rfl) <| jQ (i := 7) ?_
          refine jY rfl rfl (jn (z := xz) (cs := xzc) gH rfl) ?_
          rintro _ _ ⟨b_309, rfl, rfl⟩
          refine ⟨(by simp), ?_⟩
          refine jQ (i := 9) ?_
          refine kF rfl (jT 0 (vs := (xc z_303)) (cs' := (xc z_303)) rfl rfl rfl rfl kq rfl rfl (lb rfl) rfl) ?_
          rintro _ _ rfl
          refine jQ (i := 10) ?_
          refine jx rfl (jT 3 (vs := [iv A_304.code, iv A_304.n, str A_304.text]) (cs' := [iv A_304.code, iv A_304.n, str A_304.text]) rfl rfl rfl rfl kr rfl rfl (lb rfl) rfl) ?_
          rintro _ _ rfl
          refine kZ [3, 0, 0, 0, 0, 0, 0, 0, 0, 0, 0, 0, 0, 0, 0, 0, 0, 0, 0, 0, 0] ?_
          exact kT ⟨l_293, l_293a, l_293c, z_303, A_304, b_309, b_288, f_294, e_295, e_305, ha_306, hb_307, rfl, rfl, rfl, rfl, rfl, rfl,(by kernel_rfl)⟩
        refine jY rfl rfl (jn (z := xz) (cs := xzc) gH rfl) ?_
        rintro _ _ ⟨b_310, rfl, rfl⟩
        refine ⟨(by simp), ?_⟩
        refine jQ (i := 3) ?_
        refine jY rfl rfl (jM [] Tryz.call20 rfl (Y_sTxAsk z_57 (hI14.lim (by decide) (by decide)) l_293a l_293c l_293 3 f_294 (by omega) (hI14.okT (by decide)) (fun h_ => grow3 (by omega)) (fun h_ => growT3 (by omega)) (⟨1, [120], [], 0, 0, []⟩ : CL) ⟨by (try dsimp only); omega, by (try dsimp only); omega, by (try dsimp only); omega, (show List.length ([120] : Str) ≤ 1048576 by decide), (show List.length ([] : Str) ≤ 1048576 by decide), (show List.length ([] : Str) ≤ 1048576 by decide)⟩) rfl (fun w hw => ⟨hw.see (i := 1) rfl, hw.seeRows 4 rfl⟩)) ?_
        rintro _ _ ⟨_, ⟨z_316, A_317, e_318, ha_319, hb_320, rfl, rfl⟩, rfl⟩
        refine ⟨(by simp), ?_⟩
        refine jI 4 rfl (jF (v := .tuple #[(xv z_316), .agg #[iv A_317.code, iv A_317.n, str A_317.text]]) rfl) <| jI 5 rfl (jb (v := (xv z_316)) rfl rfl) <| jI 6 rfl (jb (v := .agg #[iv A_317.code, iv A_317.n, str A_317.text]) rfl rfl) <| jQ (i := 9) ?_
        refine kF rfl (jT 1 (vs := (xc z_316)) (cs' := (xc z_316)) rfl rfl rfl rfl kq rfl rfl (lb rfl) rfl) ?_
        rintro _ _ rfl
        refine jQ (i := 10) ?_
        refine jx rfl (jT 3 (vs := [iv A_317.code, iv A_317.n, str A_317.text]) (cs' := [iv A_317.code, iv A_317.n, str A_317.text]) rfl rfl rfl rfl kr rfl rfl (lb rfl) rfl) ?_
        rintro _ _ rfl
        refine kZ [3, 1, 0, 0, 0, 0, 0, 0, 0, 0, 0, 0, 0, 0, 0, 0, 0, 0, 0, 0, 0] ?_
        exact kT ⟨l_293, l_293a, l_293c, z_316, A_317, b_310, b_288, f_294, e_295, e_318, ha_319, hb_320, rfl, rfl, rfl, rfl, rfl, rfl,(by kernel_rfl)⟩
      refine jY rfl rfl (jn (z := xz) (cs := xzc) gH rfl) ?_
      rintro _ _ ⟨b_321, rfl, rfl⟩
      refine ⟨(by simp), ?_⟩
      refine jQ (i := 2) ?_
      refine jY rfl rfl (jM [] Tryz.call22 rfl (Y_named 1 [120]) rfl (fun _ _ => trivial)) ?_
      rintro _ _ ⟨_, ⟨rfl, rfl⟩, rfl⟩
      refine ⟨(by simp), ?_⟩
      refine jQ (i := 3) ?_
      refine jY rfl rfl (jM [] Tryz.call20 rfl (Y_sTxAsk z_57 (hI14.lim (by decide) (by decide)) l_293a l_293c l_293 3 f_294 (by omega) (hI14.okT (by decide)) (fun h_ => grow3 (by omega)) (fun h_ => growT3 (by omega)) (⟨1, [120], [], 0, 0, []⟩ : CL) ⟨by (try dsimp only); omega, by (try dsimp only); omega, by (try dsimp only); omega, (show List.length ([120] : Str) ≤ 1048576 by decide), (show List.length ([] : Str) ≤ 1048576 by decide), (show List.length ([] : Str) ≤ 1048576 by decide)⟩) rfl (fun w hw => ⟨hw.see (i := 1) rfl, hw.seeRows 4 rfl⟩)) ?_
      rintro _ _ ⟨_, ⟨z_327, A_328, e_329, ha_330, hb_331, rfl, rfl⟩, rfl⟩
      refine ⟨(by simp), ?_⟩
      refine jI 4 rfl (jF (v := .tuple #[(xv z_327), .agg #[iv A_328.code, iv A_328.n, str A_328.text]]) rfl) <| jI 5 rfl (jb (v := (xv z_327)) rfl rfl) <| jI 6 rfl (jb (v := .agg #[iv A_328.code, iv A_328.n, str A_328.text]) rfl rfl) <| jQ (i := 9) ?_
      refine kF rfl (jT 1 (vs := (xc z_327)) (cs' := (xc z_327)) rfl rfl rfl rfl kq rfl rfl (lb rfl) rfl) ?_
      rintro _ _ rfl
      refine jQ (i := 10) ?_
      refine jx rfl (jT 3 (vs := [iv A_328.code, iv A_328.n, str A_328.text]) (cs' := [iv A_328.code, iv A_328.n, str A_328.text]) rfl rfl rfl rfl kr rfl rfl (lb rfl) rfl) ?_
      rintro _ _ rfl
      refine kZ [3, 1, 0, 0, 0, 0, 0, 0, 0, 0, 0, 0, 0, 0, 0, 0, 0, 0, 0, 0, 0] ?_
      exact kT ⟨l_293, l_293a, l_293c, z_327, A_328, b_321, b_288, f_294, e_295, e_329, ha_330, hb_331, rfl, rfl, rfl, rfl, rfl, rfl,(by kernel_rfl)⟩
    refine jY rfl rfl (jn (z := xz) (cs := xzc) gH rfl) ?_
    rintro _ _ ⟨b_332, rfl, rfl⟩
    refine ⟨(by simp), ?_⟩
    refine jQ (i := 0) ?_
    refine jY rfl rfl (jM [] Tryz.call21 rfl (D_boot) rfl (fun _ _ => trivial)) ?_
    rintro _ _ ⟨_, ⟨l_336a, l_336c, l_336, e_338, f_337, rfl, rfl⟩, rfl⟩
    refine ⟨(by simp), ?_⟩
    refine jQ (i := 2) ?_
    refine jY rfl rfl (jM [] Tryz.call22 rfl (Y_named 1 [120]) rfl (fun _ _ => trivial)) ?_
    rintro _ _ ⟨_, ⟨rfl, rfl⟩, rfl⟩
    refine ⟨(by simp), ?_⟩
    refine jQ (i := 3) ?_
    refine jY rfl rfl (jM [] Tryz.call20 rfl (Y_sTxAsk z_57 (hI14.lim (by decide) (by decide)) l_336a l_336c l_336 3 f_337 (by omega) (hI14.okT (by decide)) (fun h_ => grow3 (by omega)) (fun h_ => growT3 (by omega)) (⟨1, [120], [], 0, 0, []⟩ : CL) ⟨by (try dsimp only); omega, by (try dsimp only); omega, by (try dsimp only); omega, (show List.length ([120] : Str) ≤ 1048576 by decide), (show List.length ([] : Str) ≤ 1048576 by decide), (show List.length ([] : Str) ≤ 1048576 by decide)⟩) rfl (fun w hw => ⟨hw.see (i := 0) rfl, hw.seeRows 4 rfl⟩)) ?_
    rintro _ _ ⟨_, ⟨z_344, A_345, e_346, ha_347, hb_348, rfl, rfl⟩, rfl⟩
    refine ⟨(by simp), ?_⟩
    refine jI 4 rfl (jF (v := .tuple #[(xv z_344), .agg #[iv A_345.code, iv A_345.n, str A_345.text]]) rfl) <| jI 5 rfl (jb (v := (xv z_344)) rfl rfl) <| jI 6 rfl (jb (v := .agg #[iv A_345.code, iv A_345.n, str A_345.text]) rfl rfl) <| jQ (i := 9) ?_
    refine kF rfl (jT 2 (vs := (xc z_344)) (cs' := (xc z_344)) rfl rfl rfl rfl kq rfl rfl (lb rfl) rfl) ?_
    rintro _ _ rfl
    refine jQ (i := 10) ?_
    refine jx rfl (jT 3 (vs := [iv A_345.code, iv A_345.n, str A_345.text]) (cs' := [iv A_345.code, iv A_345.n, str A_345.text]) rfl rfl rfl rfl kr rfl rfl (lb rfl) rfl) ?_
    rintro _ _ rfl
    refine kZ [3, 2, 0, 0, 0, 0, 0, 0, 0, 0, 0, 0, 0, 0, 0, 0, 0, 0, 0, 0, 0] ?_
    exact kT ⟨l_336, l_336a, l_336c, z_344, A_345, b_332, b_288, f_337, e_338, e_346, ha_347, hb_348, rfl, rfl, rfl, rfl, rfl, rfl,(by kernel_rfl)⟩
  rintro e_349 _ ⟨l_60, l_60a, l_60c, z_63, A_64, b_68, b_69, f_61, e_62, e_65, ha_66, hb_67, he_350, he_351, he_352, he_353, he_354, he_355, rfl⟩
  refine jB <| jC ?_
  have hJ := hI14.ask ⟨by dsimp only; omega, by dsimp only; omega, by dsimp only; omega, by simp, by simp, by simp⟩ e_65 hb_67
  refine jE <| jK (jX 1 (vs := (xc z_63)) rfl he_355 kz kq rfl rfl) <| jA (jF (v := iv z_55.t.mark.2) he_354) ?_
  refine jH rfl (jM [] Tryz.call10 rfl (Y_implTxBack z_63 ((hJ.lim (by decide) (by decide)).mono (show 500000000 ≤ 1000000000 by decide)) z_55.t.mark.2 (by omega)) rfl (fun w hw => hw.seeRows 2 rfl)) ?_
  rintro _ _ ⟨_, ⟨z_356, hz_357, rfl, rfl⟩, rfl⟩
  refine jA (jF (v := .tuple #[(xv z_356), .bool ((z_63.t.back z_55.t.mark.2).2)]) rfl) <| jA (jb (v := (xv z_356)) rfl rfl) <| jA (jb (v := .bool ((z_63.t.back z_55.t.mark.2).2)) rfl rfl) ?_
  refine jH rfl (jn (z := xz) (cs := xzc) gH rfl) ?_
  rintro _ _ ⟨b_358, rfl, rfl⟩
  refine jH rfl (jT 0 (vs := (xc z_356)) (cs' := (xc z_356)) rfl rfl rfl rfl kq rfl rfl (lb rfl) rfl) ?_
  rintro _ _ rfl
  refine jA (jG (v := .bool ((z_63.t.back z_55.t.mark.2).2)) rfl) <| jD <| jB <| jC <| jC ?_
  obtain ⟨hb1, hb2, hb3⟩ := ask_back h14 e_65 (y := z_356.t) (by rw [hz_357, h15])
  rw [← h15] at hb1
  refine jE <| jA (jF (v := iv z_2.t.mark.2) he_353) <| jA (jw rfl rfl) <| jD <| jB ?_
  by_cases h_359 : z_2.t.mark.2 = 0
  · refine jO (cB (dT h_359)) <| jC <| jE <| jK (jX 19 (vs := (xc z_7)) rfl he_352 kz kq rfl rfl) <| jK (jX 21 (vs := (xc z_2)) rfl he_351 kz kq rfl rfl) ?_
    refine jH rfl (jM [] Tryz.call12 rfl (Y_sameTx z_7 z_2 (((hd_3.mark hz_8).lim (by decide) (by decide)).mono (show 500000000 ≤ 1000000000 by decide))) rfl (fun w hw => ⟨hw.seeRows 20 rfl, hw.seeRows 22 rfl⟩)) ?_
    rintro _ _ ⟨_, ⟨rfl, rfl⟩, rfl⟩
    refine jA (jF (v := .bool (decide (z_7.t = z_2.t))) rfl) ?_
    have h_360 : z_7.t = z_2.t := (hz_8.trans (mark_zero (by omega)))
    refine jZ rfl rfl rfl (cB (dT h_360)) (ja (jf (jF (v := iv z_55.t.mark.2) he_354))) ?_
    rintro _ _ ⟨rfl, rfl⟩
    refine jZ rfl rfl rfl (cB (dT h_360)) (ja (jf (jw rfl rfl))) ?_
    rintro _ _ ⟨rfl, rfl⟩
    refine jA (kG (v := .bool (decide (z_55.t.mark.2 = 1))) (cB (dT h_360)) rfl) <| jA (jF (v := .bool (decide (z_55.t.mark.2 = 1))) rfl) ?_
    have h_361 : z_55.t.mark.2 = 1 := (by omega)
    refine jZ rfl rfl rfl (cB (dT h_361)) (ja (jf (jF (v := .bool ((z_63.t.back z_55.t.mark.2).2)) rfl))) ?_
    rintro _ _ ⟨rfl, rfl⟩
    refine jA (kG (v := .bool ((z_63.t.back z_55.t.mark.2).2)) (cB (dT h_361)) rfl) <| jA (jF (v := .bool ((z_63.t.back z_55.t.mark.2).2)) rfl) <| jZ rfl rfl rfl (cB hb1) (ja (jf (jJ fo31_4 rfl))) ?_
    rintro _ _ ⟨rfl, rfl⟩
    refine jZ rfl rfl rfl (cB hb1) (ja (jV 0 (v := .slice z_356.x.a0 z_356.t.calls.length z_356.x.c0) rfl rfl gb rfl)) ?_
    rintro _ _ ⟨rfl, rfl⟩
    refine jZ rfl rfl rfl (cB hb1) (ja (jf (jp gD rfl))) ?_
    rintro _ _ ⟨rfl, rfl⟩
    refine jZ rfl rfl rfl (cB hb1) (ja (jf (jw rfl rfl))) ?_
    rintro _ _ ⟨rfl, rfl⟩
    refine jA (kG (v := .bool (decide (((z_356.t.calls.length : Nat) : Int) = 0))) (cB hb1) rfl) <| jA (jG (v := .bool (decide (((z_356.t.calls.length : Nat) : Int) = 0))) rfl) <| jD <| jB <| jL <| jW ?_
    have h_362 : ((z_356.t.calls.length : Nat) : Int) = 0 := (by omega)
    refine jR (.inl rfl) rfl (jN (v := .bool true) (cB (dT h_362))) (List.nil_sublist _) ?_
    exact ⟨rfl, rfl⟩
  refine jP (cB (dF h_359)) <| jU <| jB <| jC <| jE <| jK (jX 19 (vs := (xc z_7)) rfl he_352 kz kq rfl rfl) <| jA (jF (v := iv z_2.t.mark.2) he_353) ?_
  refine jH rfl (jM [] Tryz.call10 rfl (Y_implTxBack z_7 (((hd_3.mark hz_8).lim (by decide) (by decide)).mono (show 500000000 ≤ 1000000000 by decide)) z_2.t.mark.2 (by omega)) rfl (fun w hw => hw.seeRows 20 rfl)) ?_
  rintro _ _ ⟨_, ⟨z_363, hz_364, rfl, rfl⟩, rfl⟩
  refine jA (jF (v := .tuple #[(xv z_363), .bool ((z_7.t.back z_2.t.mark.2).2)]) rfl) <| jA (jb (v := (xv z_363)) rfl rfl) <| jA (jb (v := .bool ((z_7.t.back z_2.t.mark.2).2)) rfl rfl) ?_
  refine jH rfl (jn (z := xz) (cs := xzc) gH rfl) ?_
  rintro _ _ ⟨b_365, rfl, rfl⟩
  refine jH rfl (jT 0 (vs := (xc z_363)) (cs' := (xc z_363)) rfl rfl rfl rfl kq rfl rfl (lb rfl) rfl) ?_
  rintro _ _ rfl
  refine jA (jG (v := .bool ((z_7.t.back z_2.t.mark.2).2)) rfl) <| jD <| jB <| jC ?_
  obtain ⟨hc1, hc2, hc3⟩ := mark_back (t := z_2.t) (by omega)
  rw [← hz_8] at hc1 hc2 hc3
  rw [← hz_364] at hc2 hc3
  refine jE <| jA (jF (v := .bool ((z_7.t.back z_2.t.mark.2).2)) rfl) <| jA (jF (v := .bool ((z_7.t.back z_2.t.mark.2).2)) rfl) <| jZ rfl rfl rfl (cB hc1) (ja (jf (jJ fo31_4 rfl))) ?_
  rintro _ _ ⟨rfl, rfl⟩
  refine jZ rfl rfl rfl (cB hc1) (ja (jV 0 (v := .slice z_363.x.a0 z_363.t.calls.length z_363.x.c0) rfl rfl gb rfl)) ?_
  rintro _ _ ⟨rfl, rfl⟩
  refine jZ rfl rfl rfl (cB hc1) (ja (jf (jp gD rfl))) ?_
  rintro _ _ ⟨rfl, rfl⟩
  refine jZ rfl rfl rfl (cB hc1) (ja (jf (jJ fo31_4 he_351))) ?_
  rintro _ _ ⟨rfl, rfl⟩
  refine jZ rfl rfl rfl (cB hc1) (ja (jV 23 (v := .slice z_2.x.a0 z_2.t.calls.length z_2.x.c0) rfl rfl gb rfl)) ?_
  rintro _ _ ⟨rfl, rfl⟩
  refine jZ rfl rfl rfl (cB hc1) (ja (jf (jp gD rfl))) ?_
  rintro _ _ ⟨rfl, rfl⟩
  refine jZ rfl rfl rfl (cB hc1) (ja (jf (jw rfl rfl))) ?_
  rintro _ _ ⟨rfl, rfl⟩
  refine jA (kG (v := .bool (decide (((z_363.t.calls.length : Nat) : Int) = ((z_2.t.calls.length : Nat) : Int)))) (cB hc1) rfl) <| jA (jF (v := .bool (decide (((z_363.t.calls.length : Nat) : Int) = ((z_2.t.calls.length : Nat) : Int)))) rfl) ?_
  have h_366 : ((z_363.t.calls.length : Nat) : Int) = ((z_2.t.calls.length : Nat) : Int) := (by omega)
  refine jZ rfl rfl rfl (cB (dT h_366)) (ja (jf (jJ fo31_7 rfl))) ?_
  rintro _ _ ⟨rfl, rfl⟩
  refine jZ rfl rfl rfl (cB (dT h_366)) (ja (jV 0 (v := .slice z_363.x.a4 z_363.t.marks.length z_363.x.c4) rfl rfl gS rfl)) ?_
  rintro _ _ ⟨rfl, rfl⟩
  refine jZ rfl rfl rfl (cB (dT h_366)) (ja (jf (jp gB rfl))) ?_
  rintro _ _ ⟨rfl, rfl⟩
  refine jZ rfl rfl rfl (cB (dT h_366)) (ja (jf (jF (v := iv z_2.t.mark.2) he_353))) ?_
  rintro _ _ ⟨rfl, rfl⟩
  refine jZ rfl rfl rfl (cB (dT h_366)) (ja (jf (kW (c := z_2.t.mark.2 - 1) rfl rfl (wr (by omega))))) ?_
  rintro _ _ ⟨rfl, rfl⟩
  refine jZ rfl rfl rfl (cB (dT h_366)) (ja (jf (jw rfl rfl))) ?_
  rintro _ _ ⟨rfl, rfl⟩
  refine jA (kG (v := .bool (decide (((z_363.t.marks.length : Nat) : Int) = (z_2.t.mark.2 - 1)))) (cB (dT h_366)) rfl) <| jA (jF (v := .bool (decide (((z_363.t.marks.length : Nat) : Int) = (z_2.t.mark.2 - 1)))) rfl) ?_
  have h_367 : ((z_363.t.marks.length : Nat) : Int) = (z_2.t.mark.2 - 1) := (by omega)
  refine jZ rfl rfl rfl (cB (dT h_367)) (ja (jf (jF (v := iv z_55.t.mark.2) he_354))) ?_
  rintro _ _ ⟨rfl, rfl⟩
  refine jZ rfl rfl rfl (cB (dT h_367)) (ja (jf (jw rfl rfl))) ?_
  rintro _ _ ⟨rfl, rfl⟩
  refine jA (kG (v := .bool (decide (z_55.t.mark.2 = 1))) (cB (dT h_367)) rfl) <| jA (jF (v := .bool (decide (z_55.t.mark.2 = 1))) rfl) ?_
  have h_368 : z_55.t.mark.2 = 1 := (by omega)
  refine jZ rfl rfl rfl (cB (dT h_368)) (ja (jf (jF (v := .bool ((z_63.t.back z_55.t.mark.2).2)) rfl))) ?_
  rintro _ _ ⟨rfl, rfl⟩
  refine jA (kG (v := .bool ((z_63.t.back z_55.t.mark.2).2)) (cB (dT h_368)) rfl) <| jA (jF (v := .bool ((z_63.t.back z_55.t.mark.2).2)) rfl) <| jZ rfl rfl rfl (cB hb1) (ja (jf (jJ fo31_4 rfl))) ?_
  rintro _ _ ⟨rfl, rfl⟩
  refine jZ rfl rfl rfl (cB hb1) (ja (jV 2 (v := .slice z_356.x.a0 z_356.t.calls.length z_356.x.c0) rfl rfl gb rfl)) ?_
  rintro _ _ ⟨rfl, rfl⟩
  refine jZ rfl rfl rfl (cB hb1) (ja (jf (jp gD rfl))) ?_
  rintro _ _ ⟨rfl, rfl⟩
  refine jZ rfl rfl rfl (cB hb1) (ja (jf (jw rfl rfl))) ?_
  rintro _ _ ⟨rfl, rfl⟩
  refine jA (kG (v := .bool (decide (((z_356.t.calls.length : Nat) : Int) = 0))) (cB hb1) rfl) <| jA (jF (v := .bool (decide (((z_356.t.calls.length : Nat) : Int) = 0))) rfl) ?_
  have h_369 : ((z_356.t.calls.length : Nat) : Int) = 0 := (by omega)
  refine jZ rfl rfl rfl (cB (dT h_369)) (ja (jf (jJ fo31_6 rfl))) ?_
  rintro _ _ ⟨rfl, rfl⟩
  refine jZ rfl rfl rfl (cB (dT h_369)) (ja (jf (jJ fo28_1 rfl))) ?_
  rintro _ _ ⟨rfl, rfl⟩
  refine jZ rfl rfl rfl (cB (dT h_369)) (ja (jV 2 (v := .slice z_356.x.a3 z_356.t.wr.length z_356.x.c3) rfl rfl gF rfl)) ?_
  rintro _ _ ⟨rfl, rfl⟩
  refine jZ rfl rfl rfl (cB (dT h_369)) (ja (jf (jp ks rfl))) ?_
  rintro _ _ ⟨rfl, rfl⟩
  refine jZ rfl rfl rfl (cB (dT h_369)) (ja (jf (jJ fo31_6 he_355))) ?_
  rintro _ _ ⟨rfl, rfl⟩
  refine jZ rfl rfl rfl (cB (dT h_369)) (ja (jf (jJ fo28_1 rfl))) ?_
  rintro _ _ ⟨rfl, rfl⟩
  refine jZ rfl rfl rfl (cB (dT h_369)) (ja (jV 5 (v := .slice z_63.x.a3 z_63.t.wr.length z_63.x.c3) rfl rfl gF rfl)) ?_
  rintro _ _ ⟨rfl, rfl⟩
  refine jZ rfl rfl rfl (cB (dT h_369)) (ja (jf (jp ks rfl))) ?_
  rintro _ _ ⟨rfl, rfl⟩
  refine jZ rfl rfl rfl (cB (dT h_369)) (ja (jf (jw rfl rfl))) ?_
  rintro _ _ ⟨rfl, rfl⟩
  refine jA (kG (v := .bool (decide (((z_356.t.wr.length : Nat) : Int) = ((z_63.t.wr.length : Nat) : Int)))) (cB (dT h_369)) rfl) <| jA (jG (v := .bool (decide (((z_356.t.wr.length : Nat) : Int) = ((z_63.t.wr.length : Nat) : Int)))) rfl) <| jD <| jB <| jL ?_
  have h_370 : ((z_356.t.wr.length : Nat) : Int) = ((z_63.t.wr.length : Nat) : Int) := (by omega)
  refine jR (.inl rfl) rfl (jN (v := .bool true) (cB (dT h_370))) (List.nil_sublist _) ?_
  exact ⟨rfl, rfl⟩

end Go.Proofs.YtghfijncihbojaaGreat
