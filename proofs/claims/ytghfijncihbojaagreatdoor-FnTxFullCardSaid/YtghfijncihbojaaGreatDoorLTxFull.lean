/-
  laws.FnTxFull walked: it returns true.
-/
import Derived.Test.YtghfijncihbojaaGreatDoorDatRc
import Derived.Test.YtghfijncihbojaaGreatDoorDatL
import Derived.Test.YtghfijncihbojaaGreatDoorDatRb
set_option linter.unusedSimpArgs false
set_option linter.unusedVariables false
set_option linter.unnecessarySimpa false
namespace Go.Proofs.YtghfijncihbojaaGreatDoor
open Go Go.RowKit
theorem boot_runs : runs bootS := by unfold runs bootS; decide +kernel
attribute [local irreducible] JL JC JQ JO LO PO JA JX Ct

set_option maxRecDepth 8000 in
set_option maxHeartbeats 4000000 in
theorem L_TxFull (pa : Option Addr) (pc : Nat) (p : Str) :
    Ct Tryz.prog 4 [.slice pa p.length pc] [] (fun w => Sees w (.slice pa p.length pc) 1 p.length (p.map encB) ∧ HexOk w) (fun v A' => v = .bool true ∧ A' = []) := by
  refine Ct.introL Tryz.func4 rfl Tryz.ntmps4 (lb rfl) fun w0 hpre hlow => ?_
  have hs_pa : Sees w0 _ _ _ _ := hpre.1
  refine jD <| jF <| jA (jG (v := .bool false) rfl) <| jE <| jB <| jD <| jD <| jF <| jA (jC (v := .slice pa p.length pc) rfl) ?_
  refine jH rfl (jI [] Tryz.call6 rfl (N_big pa pc p) rfl (fun _ _ => trivial)) ?_
  rintro _ _ ⟨_, ⟨rfl, rfl⟩, rfl⟩
  refine jE <| jB ?_
  by_cases h_1 : 1048576 < ((p.length : Nat) : Int)
  · refine jQ (cB (dT h_1)) <| jD <| jF <| jA (jG (v := .bool true) rfl) <| jE <| jB <| jM <| jb <| jU (.inl rfl) rfl (jN (v := .bool true) rfl) (List.nil_sublist _) ?_
    exact ⟨rfl, rfl⟩
  refine jR (cB (dF h_1)) <| jW <| jB <| jD <| jF <| jA (jC (v := .slice pa p.length pc) rfl) ?_
  refine jH rfl (jI [] Tryz.call7 rfl (D_dPlaces pa pc p (by omega)) rfl (fun w hw => hw.seeOut_ hs_pa nM)) ?_
  rintro _ _ ⟨_, ⟨l_2a, l_2c, l_2, f_3, rfl, rfl⟩, rfl⟩
  refine jA (jG (v := .slice l_2a l_2.length l_2c) rfl) <| jE <| jB <| jD <| jF ?_
  refine jH rfl (jI [] Tryz.call8 rfl (Y_iTxNew 1 1 1) rfl (fun _ _ => trivial)) ?_
  rintro _ _ ⟨_, ⟨z_5, hz_6, rfl, rfl⟩, rfl⟩
  refine jH rfl (jh (z := .agg #[iv 0, iv 0, iv 0, iv 0, .slice none 0 0, .slice none 0 0, .slice none 0 0, .slice none 0 0, .slice none 0 0, iv 0]) (cs := [iv 0, iv 0, iv 0, iv 0, .slice none 0 0, .slice none 0 0, .slice none 0 0, .slice none 0 0, .slice none 0 0, iv 0]) gF rfl) ?_
  rintro _ _ ⟨b_7, rfl, rfl⟩
  refine jH rfl (ja 0 (vs := [iv z_5.t.id, iv z_5.t.age, iv z_5.t.proc, iv z_5.t.began, .slice z_5.x.a0 z_5.t.calls.length z_5.x.c0, .slice z_5.x.a1 z_5.t.ans.length z_5.x.c1, .slice z_5.x.a2 z_5.t.rd.length z_5.x.c2, .slice z_5.x.a3 z_5.t.wr.length z_5.x.c3, .slice z_5.x.a4 z_5.t.marks.length z_5.x.c4, iv z_5.t.state]) (cs' := [iv z_5.t.id, iv z_5.t.age, iv z_5.t.proc, iv z_5.t.began, .slice z_5.x.a0 z_5.t.calls.length z_5.x.c0, .slice z_5.x.a1 z_5.t.ans.length z_5.x.c1, .slice z_5.x.a2 z_5.t.rd.length z_5.x.c2, .slice z_5.x.a3 z_5.t.wr.length z_5.x.c3, .slice z_5.x.a4 z_5.t.marks.length z_5.x.c4, iv z_5.t.state]) rfl rfl rfl rfl kq rfl rfl (lb rfl) rfl) ?_
  rintro _ _ rfl
  refine jE <| jB <| jD <| jF <| jA (kN (ps := []) (cs := [iv 0, iv 0, str []]) rfl (by kernel_rfl)) ?_
  refine jH rfl (jh (z := .agg #[iv 0, iv 0, str []]) (cs := [iv 0, iv 0, str []]) km rfl) ?_
  rintro _ _ ⟨b_8, rfl, rfl⟩
  refine jH rfl (ja 0 (vs := [iv 0, iv 0, str []]) (cs' := [iv 0, iv 0, str []]) rfl rfl rfl rfl kc rfl rfl (lb rfl) rfl) ?_
  rintro _ _ rfl
  refine jE <| jB <| jD <| jD <| jF <| jA (jG (v := iv 0) rfl) <| jE <| jB <| jl <| kE (fun k_ e_ L_ => ∃ i_ : Nat, ∃ z : TX, ∃ A_ : AN, (i_ ≤ 12) ∧ (stInv i_ z.t) ∧ e_ 3 = .slice l_2a l_2.length l_2c ∧ e_ 4 = .pointer (some ⟨b_7, 0, none⟩) ∧ e_ 5 = .pointer (some ⟨b_8, 0, none⟩) ∧ e_ 6 = nv i_ ∧ L_ = [bk b_8 37 [iv A_.code, iv A_.n, str A_.text], bk b_7 32 [iv z.t.id, iv z.t.age, iv z.t.proc, iv z.t.began, .slice z.x.a0 z.t.calls.length z.x.c0, .slice z.x.a1 z.t.ans.length z.x.c1, .slice z.x.a2 z.t.rd.length z.x.c2, .slice z.x.a3 z.t.wr.length z.x.c3, .slice z.x.a4 z.t.marks.length z.x.c4, iv z.t.state], Res.rows (rdsX z), rI l_2a l_2c l_2] ∧ k_ = 12 - i_) _ ⟨0, z_5, (⟨0, 0, []⟩ : AN), by omega, (by rw [hz_6]; exact stInv.new), rfl, rfl, rfl, rfl, rfl, rfl⟩ ?_
  rintro _ e_9 _ ⟨i_, z, A_, hi, hI, he_10, he_11, he_12, he_13, rfl, rfl⟩
  have hIn := hI.n
  refine jD <| jD <| jF <| jA (jC (v := nv i_) he_13) <| jA (jr rfl rfl) <| jE <| jB ?_
  by_cases h_14 : ((i_ : Nat) : Int) < 12
  · refine jQ (cB (dT h_14)) <| jW <| jB <| jD <| jl <| jD <| jq [bk b_7 32 [iv z.t.id, iv z.t.age, iv z.t.proc, iv z.t.began, .slice z.x.a0 z.t.calls.length z.x.c0, .slice z.x.a1 z.t.ans.length z.x.c1, .slice z.x.a2 z.t.rd.length z.x.c2, .slice z.x.a3 z.t.wr.length z.x.c3, .slice z.x.a4 z.t.marks.length z.x.c4, iv z.t.state]] 13 mixed (by simp) <| jj 1 rfl (je 0 (vs := [iv z.t.id, iv z.t.age, iv z.t.proc, iv z.t.began, .slice z.x.a0 z.t.calls.length z.x.c0, .slice z.x.a1 z.t.ans.length z.x.c1, .slice z.x.a2 z.t.rd.length z.x.c2, .slice z.x.a3 z.t.wr.length z.x.c3, .slice z.x.a4 z.t.marks.length z.x.c4, iv z.t.state]) rfl he_11 kw kq rfl rfl) <| jJ 2 rfl (jC (v := .slice l_2a l_2.length l_2c) he_10) <| jJ 3 rfl (jC (v := nv i_) he_13) ?_
    refine jJ 4 rfl (PO.remN (c := ((i_ % 8 : Nat) : Int)) rfl rfl (by omega) (by omega) (by omega)) ?_
    refine JA.facts fun hst => ?_
    obtain ⟨hr_30, hr_30b, -⟩ := row_some 3 rfl (by omega) hst
    refine jJ 5 rfl (kD (i := (i_ % 8)) kv ko hr_30 hr_30b rfl rfl (by omega)) ?_
    refine kL (i := 0) (j := 6) (by kernel_rfl) ?_ ?_
    · refine jP rfl rfl (jI [] Tryz.call11 rfl (D_boot) rfl (fun _ _ => trivial)) ?_
      rintro _ _ ⟨_, ⟨l_34a, l_34c, l_34, e_36, f_35, rfl, rfl⟩, rfl⟩
      refine ⟨(by simp), ?_⟩
      refine jK (i := 6) ?_
      refine jP rfl rfl (jZ (kX 4 (v := iv (l_2.getD (i_ % 8) 0)) rfl rfl kl (atI (by omega)))) ?_
      rintro _ _ ⟨rfl, rfl⟩
      refine ⟨(by simp), ?_⟩
      obtain ⟨kk_37, hkk_38⟩ : ∃ kk_37 : Nat, l_2.getD (i_ % 8) 0 = ((kk_37 : Nat) : Int) := ⟨(l_2.getD (i_ % 8) 0).toNat, by have hlo_ := f_3.2 _ (getD_mem (d := 0) (show i_ % 8 < l_2.length by have hq_ := f_3.1; omega)); omega⟩
      refine jJ 7 rfl (PO.remN (c := ((kk_37 % 4 : Nat) : Int)) (congrArg (Value.int .i64) hkk_38) rfl (by omega) (by omega) (by omega)) <| jJ 8 rfl (kN (ps := [(0, iv 20), (3, iv ((kk_37 % 4 : Nat) : Int)), (5, str [97, 98])]) (cs := [iv 20, str [], str [], iv ((kk_37 % 4 : Nat) : Int), iv 0, str [97, 98]]) rfl (by kernel_rfl)) <| jK (i := 9) ?_
      refine jP rfl rfl (jI [] Tryz.call10 rfl (Y_iTxAsk z (hI.lim (by omega)) l_34a l_34c l_34 3 f_35 (by omega) (hI.okT (by omega)) (fun h_ => grow3 (by omega)) (fun h_ => growT3 (by omega)) (⟨20, [], [], ((kk_37 % 4 : Nat) : Int), 0, [97, 98]⟩ : CL) ⟨by (try dsimp only); omega, by (try dsimp only); omega, by (try dsimp only); omega, (show List.length ([] : Str) ≤ 1048576 by decide), (show List.length ([] : Str) ≤ 1048576 by decide), (show List.length ([97, 98] : Str) ≤ 1048576 by decide)⟩) rfl (fun w hw => ⟨hw.see (i := 0) rfl, hw.seeRows 3 rfl, hw.hex hlow hpre.2⟩)) ?_
      rintro _ _ ⟨_, ⟨z_44, A_45, e_46, ha_47, hb_48, rfl, rfl⟩, rfl⟩
      refine ⟨(by simp), ?_⟩
      refine jJ 10 rfl (jC (v := .tuple #[.agg #[iv z_44.t.id, iv z_44.t.age, iv z_44.t.proc, iv z_44.t.began, .slice z_44.x.a0 z_44.t.calls.length z_44.x.c0, .slice z_44.x.a1 z_44.t.ans.length z_44.x.c1, .slice z_44.x.a2 z_44.t.rd.length z_44.x.c2, .slice z_44.x.a3 z_44.t.wr.length z_44.x.c3, .slice z_44.x.a4 z_44.t.marks.length z_44.x.c4, iv z_44.t.state], .agg #[iv A_45.code, iv A_45.n, str A_45.text]]) rfl) <| jJ 11 rfl (jS (v := .agg #[iv z_44.t.id, iv z_44.t.age, iv z_44.t.proc, iv z_44.t.began, .slice z_44.x.a0 z_44.t.calls.length z_44.x.c0, .slice z_44.x.a1 z_44.t.ans.length z_44.x.c1, .slice z_44.x.a2 z_44.t.rd.length z_44.x.c2, .slice z_44.x.a3 z_44.t.wr.length z_44.x.c3, .slice z_44.x.a4 z_44.t.marks.length z_44.x.c4, iv z_44.t.state]) rfl rfl) <| jJ 12 rfl (jS (v := .agg #[iv A_45.code, iv A_45.n, str A_45.text]) rfl rfl) <| jK (i := 13) ?_
      refine jp rfl (ja 3 (vs := [iv z_44.t.id, iv z_44.t.age, iv z_44.t.proc, iv z_44.t.began, .slice z_44.x.a0 z_44.t.calls.length z_44.x.c0, .slice z_44.x.a1 z_44.t.ans.length z_44.x.c1, .slice z_44.x.a2 z_44.t.rd.length z_44.x.c2, .slice z_44.x.a3 z_44.t.wr.length z_44.x.c3, .slice z_44.x.a4 z_44.t.marks.length z_44.x.c4, iv z_44.t.state]) (cs' := [iv z_44.t.id, iv z_44.t.age, iv z_44.t.proc, iv z_44.t.began, .slice z_44.x.a0 z_44.t.calls.length z_44.x.c0, .slice z_44.x.a1 z_44.t.ans.length z_44.x.c1, .slice z_44.x.a2 z_44.t.rd.length z_44.x.c2, .slice z_44.x.a3 z_44.t.wr.length z_44.x.c3, .slice z_44.x.a4 z_44.t.marks.length z_44.x.c4, iv z_44.t.state]) rfl he_11 rfl rfl kq rfl rfl (lb rfl) rfl) ?_
      rintro _ _ rfl
      refine jK (i := 14) ?_
      refine jo rfl (ja 2 (vs := [iv A_45.code, iv A_45.n, str A_45.text]) (cs' := [iv A_45.code, iv A_45.n, str A_45.text]) rfl he_12 rfl rfl kc rfl rfl (lb rfl) rfl) ?_
      rintro _ _ rfl
      refine jB <| jD ?_
      have hrn : runs l_34 := by rw [← e_36]; exact boot_runs
      obtain ⟨hst1, hst2⟩ := stInv.step (c := (⟨20, [], [], ((kk_37 % 4 : Nat) : Int), 0, [97, 98]⟩ : CL)) hI hrn (by omega) ⟨rfl, by dsimp only; omega, rfl, rfl, rfl, rfl⟩ e_46 hb_48
      refine jF <| jA (jY fo37_0 he_12) <| jT (jf 2 (v := iv A_45.code) rfl rfl kl rfl) <| jA (kO rfl rfl) <| jE <| jB ?_
      have h_49 : A_45.code = 0 := (by rw [hst2])
      refine jR (cB (cN (dT h_49))) <| jW <| jk <| jB <| jF <| jA (jC (v := nv i_) he_13) <| jA (ji (c := ((i_ + 1 : Nat) : Int)) rfl rfl (wr (by omega))) <| jA (jG (v := iv ((i_ + 1 : Nat) : Int)) rfl) <| jE <| jt [2, 2, 0, 2] (A := [bk b_8 37 [iv A_45.code, iv A_45.n, str A_45.text], bk b_7 32 [iv z_44.t.id, iv z_44.t.age, iv z_44.t.proc, iv z_44.t.began, .slice z_44.x.a0 z_44.t.calls.length z_44.x.c0, .slice z_44.x.a1 z_44.t.ans.length z_44.x.c1, .slice z_44.x.a2 z_44.t.rd.length z_44.x.c2, .slice z_44.x.a3 z_44.t.wr.length z_44.x.c3, .slice z_44.x.a4 z_44.t.marks.length z_44.x.c4, iv z_44.t.state], Res.rows (rdsX z_44), rI l_2a l_2c l_2]) rfl ?_
      refine ju (12 - (i_ + 1)) (by omega) ⟨i_ + 1, z_44, A_45, by omega, (by have h_ := hst1; rw [Nat.add_comm] at *; first | exact hst1 | simpa [Nat.add_comm] using hst1), he_10, he_11, he_12, rfl, rfl, rfl⟩
    refine jP rfl rfl (jZ (kX 3 (v := iv (l_2.getD (i_ % 8) 0)) rfl rfl kl (atI (by omega)))) ?_
    rintro _ _ ⟨rfl, rfl⟩
    refine ⟨(by simp), ?_⟩
    obtain ⟨kk_53, hkk_54⟩ : ∃ kk_53 : Nat, l_2.getD (i_ % 8) 0 = ((kk_53 : Nat) : Int) := ⟨(l_2.getD (i_ % 8) 0).toNat, by have hlo_ := f_3.2 _ (getD_mem (d := 0) (show i_ % 8 < l_2.length by have hq_ := f_3.1; omega)); omega⟩
    refine jJ 7 rfl (PO.remN (c := ((kk_53 % 4 : Nat) : Int)) (congrArg (Value.int .i64) hkk_54) rfl (by omega) (by omega) (by omega)) <| jJ 8 rfl (kN (ps := [(0, iv 20), (3, iv ((kk_53 % 4 : Nat) : Int)), (5, str [97, 98])]) (cs := [iv 20, str [], str [], iv ((kk_53 % 4 : Nat) : Int), iv 0, str [97, 98]]) rfl (by kernel_rfl)) <| jK (i := 0) ?_
    refine jP rfl rfl (jI [] Tryz.call11 rfl (D_boot) rfl (fun _ _ => trivial)) ?_
    rintro _ _ ⟨_, ⟨l_61a, l_61c, l_61, e_63, f_62, rfl, rfl⟩, rfl⟩
    refine ⟨(by simp), ?_⟩
    refine jK (i := 9) ?_
    refine jP rfl rfl (jI [] Tryz.call10 rfl (Y_iTxAsk z (hI.lim (by omega)) l_61a l_61c l_61 3 f_62 (by omega) (hI.okT (by omega)) (fun h_ => grow3 (by omega)) (fun h_ => growT3 (by omega)) (⟨20, [], [], ((kk_53 % 4 : Nat) : Int), 0, [97, 98]⟩ : CL) ⟨by (try dsimp only); omega, by (try dsimp only); omega, by (try dsimp only); omega, (show List.length ([] : Str) ≤ 1048576 by decide), (show List.length ([] : Str) ≤ 1048576 by decide), (show List.length ([97, 98] : Str) ≤ 1048576 by decide)⟩) rfl (fun w hw => ⟨hw.see (i := 0) rfl, hw.seeRows 3 rfl, hw.hex hlow hpre.2⟩)) ?_
    rintro _ _ ⟨_, ⟨z_69, A_70, e_71, ha_72, hb_73, rfl, rfl⟩, rfl⟩
    refine ⟨(by simp), ?_⟩
    refine jJ 10 rfl (jC (v := .tuple #[.agg #[iv z_69.t.id, iv z_69.t.age, iv z_69.t.proc, iv z_69.t.began, .slice z_69.x.a0 z_69.t.calls.length z_69.x.c0, .slice z_69.x.a1 z_69.t.ans.length z_69.x.c1, .slice z_69.x.a2 z_69.t.rd.length z_69.x.c2, .slice z_69.x.a3 z_69.t.wr.length z_69.x.c3, .slice z_69.x.a4 z_69.t.marks.length z_69.x.c4, iv z_69.t.state], .agg #[iv A_70.code, iv A_70.n, str A_70.text]]) rfl) <| jJ 11 rfl (jS (v := .agg #[iv z_69.t.id, iv z_69.t.age, iv z_69.t.proc, iv z_69.t.began, .slice z_69.x.a0 z_69.t.calls.length z_69.x.c0, .slice z_69.x.a1 z_69.t.ans.length z_69.x.c1, .slice z_69.x.a2 z_69.t.rd.length z_69.x.c2, .slice z_69.x.a3 z_69.t.wr.length z_69.x.c3, .slice z_69.x.a4 z_69.t.marks.length z_69.x.c4, iv z_69.t.state]) rfl rfl) <| jJ 12 rfl (jS (v := .agg #[iv A_70.code, iv A_70.n, str A_70.text]) rfl rfl) <| jK (i := 13) ?_
    refine jp rfl (ja 3 (vs := [iv z_69.t.id, iv z_69.t.age, iv z_69.t.proc, iv z_69.t.began, .slice z_69.x.a0 z_69.t.calls.length z_69.x.c0, .slice z_69.x.a1 z_69.t.ans.length z_69.x.c1, .slice z_69.x.a2 z_69.t.rd.length z_69.x.c2, .slice z_69.x.a3 z_69.t.wr.length z_69.x.c3, .slice z_69.x.a4 z_69.t.marks.length z_69.x.c4, iv z_69.t.state]) (cs' := [iv z_69.t.id, iv z_69.t.age, iv z_69.t.proc, iv z_69.t.began, .slice z_69.x.a0 z_69.t.calls.length z_69.x.c0, .slice z_69.x.a1 z_69.t.ans.length z_69.x.c1, .slice z_69.x.a2 z_69.t.rd.length z_69.x.c2, .slice z_69.x.a3 z_69.t.wr.length z_69.x.c3, .slice z_69.x.a4 z_69.t.marks.length z_69.x.c4, iv z_69.t.state]) rfl he_11 rfl rfl kq rfl rfl (lb rfl) rfl) ?_
    rintro _ _ rfl
    refine jK (i := 14) ?_
    refine jo rfl (ja 2 (vs := [iv A_70.code, iv A_70.n, str A_70.text]) (cs' := [iv A_70.code, iv A_70.n, str A_70.text]) rfl he_12 rfl rfl kc rfl rfl (lb rfl) rfl) ?_
    rintro _ _ rfl
    refine jB <| jD ?_
    have hrn : runs l_61 := by rw [← e_63]; exact boot_runs
    obtain ⟨hst1, hst2⟩ := stInv.step (c := (⟨20, [], [], ((kk_53 % 4 : Nat) : Int), 0, [97, 98]⟩ : CL)) hI hrn (by omega) ⟨rfl, by dsimp only; omega, rfl, rfl, rfl, rfl⟩ e_71 hb_73
    refine jF <| jA (jY fo37_0 he_12) <| jT (jf 2 (v := iv A_70.code) rfl rfl kl rfl) <| jA (kO rfl rfl) <| jE <| jB ?_
    have h_74 : A_70.code = 0 := (by rw [hst2])
    refine jR (cB (cN (dT h_74))) <| jW <| jk <| jB <| jF <| jA (jC (v := nv i_) he_13) <| jA (ji (c := ((i_ + 1 : Nat) : Int)) rfl rfl (wr (by omega))) <| jA (jG (v := iv ((i_ + 1 : Nat) : Int)) rfl) <| jE <| jt [2, 2, 0, 2] (A := [bk b_8 37 [iv A_70.code, iv A_70.n, str A_70.text], bk b_7 32 [iv z_69.t.id, iv z_69.t.age, iv z_69.t.proc, iv z_69.t.began, .slice z_69.x.a0 z_69.t.calls.length z_69.x.c0, .slice z_69.x.a1 z_69.t.ans.length z_69.x.c1, .slice z_69.x.a2 z_69.t.rd.length z_69.x.c2, .slice z_69.x.a3 z_69.t.wr.length z_69.x.c3, .slice z_69.x.a4 z_69.t.marks.length z_69.x.c4, iv z_69.t.state], Res.rows (rdsX z_69), rI l_2a l_2c l_2]) rfl ?_
    refine ju (12 - (i_ + 1)) (by omega) ⟨i_ + 1, z_69, A_70, by omega, (by have h_ := hst1; rw [Nat.add_comm] at *; first | exact hst1 | simpa [Nat.add_comm] using hst1), he_10, he_11, he_12, rfl, rfl, rfl⟩
  refine jR (cB (dF h_14)) <| kB <| jm <| jm <| kC <| jB <| jD ?_
  refine JC.cut (fun e_ L_ => ∃ l_75 : List Cell, ∃ l_75a : Option Addr, ∃ l_75c : Nat, ∃ z_78 : TX, ∃ A_79 : AN, ∃ b_83 : Nat, ∃ b_84 : Nat, (okC' 3 1048576 l_75) ∧ (bootS = l_75) ∧ (TD.askV (viewA l_75 z.t) z.t (⟨9, [], [], 0, 0, []⟩ : CL) = (z_78.t, A_79)) ∧ ((0 ≤ A_79.code ∧ A_79.code ≤ 9) ∧ (-1 ≤ A_79.n ∧ A_79.n ≤ 1000000000) ∧ A_79.text.length ≤ 30000000000000) ∧ (z_78.t.rd.length ≤ z.t.rd.length + 20000000 ∧ z_78.t.wr.length ≤ z.t.wr.length + 20000000) ∧ e_ 4 = .pointer (some ⟨b_7, 0, none⟩) ∧ e_ 7 = .pointer (some ⟨b_83, 0, none⟩) ∧ e_ 8 = .pointer (some ⟨b_84, 0, none⟩) ∧ L_ = [bk b_84 37 [iv A_79.code, iv A_79.n, str A_79.text], bk b_83 32 [iv z_78.t.id, iv z_78.t.age, iv z_78.t.proc, iv z_78.t.began, .slice z_78.x.a0 z_78.t.calls.length z_78.x.c0, .slice z_78.x.a1 z_78.t.ans.length z_78.x.c1, .slice z_78.x.a2 z_78.t.rd.length z_78.x.c2, .slice z_78.x.a3 z_78.t.wr.length z_78.x.c3, .slice z_78.x.a4 z_78.t.marks.length z_78.x.c4, iv z_78.t.state], Res.rows (rdsX z_78), rC l_75a l_75c l_75, bk b_8 37 [iv A_.code, iv A_.n, str A_.text], bk b_7 32 [iv z.t.id, iv z.t.age, iv z.t.proc, iv z.t.began, .slice z.x.a0 z.t.calls.length z.x.c0, .slice z.x.a1 z.t.ans.length z.x.c1, .slice z.x.a2 z.t.rd.length z.x.c2, .slice z.x.a3 z.t.wr.length z.x.c3, .slice z.x.a4 z.t.marks.length z.x.c4, iv z.t.state], Res.rows (rdsX z), rI l_2a l_2c l_2]) ?_ ?_
  · refine jq [bk b_7 32 [iv z.t.id, iv z.t.age, iv z.t.proc, iv z.t.began, .slice z.x.a0 z.t.calls.length z.x.c0, .slice z.x.a1 z.t.ans.length z.x.c1, .slice z.x.a2 z.t.rd.length z.x.c2, .slice z.x.a3 z.t.wr.length z.x.c3, .slice z.x.a4 z.t.marks.length z.x.c4, iv z.t.state]] 9 mixed (by simp) <| jj 1 rfl (je 0 (vs := [iv z.t.id, iv z.t.age, iv z.t.proc, iv z.t.began, .slice z.x.a0 z.t.calls.length z.x.c0, .slice z.x.a1 z.t.ans.length z.x.c1, .slice z.x.a2 z.t.rd.length z.x.c2, .slice z.x.a3 z.t.wr.length z.x.c3, .slice z.x.a4 z.t.marks.length z.x.c4, iv z.t.state]) rfl he_11 kw kq rfl rfl) <| jJ 2 rfl (kN (ps := [(0, iv 9)]) (cs := [iv 9, str [], str [], iv 0, iv 0, str []]) rfl (by kernel_rfl)) ?_
    refine JA.three (i := 0) (j := 7) (k := 8) (by kernel_rfl) ?_ ?_ ?_
    · refine jP rfl rfl (jI [] Tryz.call11 rfl (D_boot) rfl (fun _ _ => trivial)) ?_
      rintro _ _ ⟨_, ⟨l_96a, l_96c, l_96, e_98, f_97, rfl, rfl⟩, rfl⟩
      refine ⟨(by simp), ?_⟩
      refine JA.three (i := 3) (j := 7) (k := 8) (by kernel_rfl) ?_ ?_ ?_
      · refine jP rfl rfl (jI [] Tryz.call10 rfl (Y_iTxAsk z (hI.lim (by omega)) l_96a l_96c l_96 3 f_97 (by omega) (hI.okT (by omega)) (fun h_ => grow3 (by omega)) (fun h_ => growT3 (by omega)) (⟨9, [], [], 0, 0, []⟩ : CL) ⟨by (try dsimp only); omega, by (try dsimp only); omega, by (try dsimp only); omega, (show List.length ([] : Str) ≤ 1048576 by decide), (show List.length ([] : Str) ≤ 1048576 by decide), (show List.length ([] : Str) ≤ 1048576 by decide)⟩) rfl (fun w hw => ⟨hw.see (i := 0) rfl, hw.seeRows 3 rfl, hw.hex hlow hpre.2⟩)) ?_
        rintro _ _ ⟨_, ⟨z_106, A_107, e_108, ha_109, hb_110, rfl, rfl⟩, rfl⟩
        refine ⟨(by simp), ?_⟩
        refine jJ 4 rfl (jC (v := .tuple #[.agg #[iv z_106.t.id, iv z_106.t.age, iv z_106.t.proc, iv z_106.t.began, .slice z_106.x.a0 z_106.t.calls.length z_106.x.c0, .slice z_106.x.a1 z_106.t.ans.length z_106.x.c1, .slice z_106.x.a2 z_106.t.rd.length z_106.x.c2, .slice z_106.x.a3 z_106.t.wr.length z_106.x.c3, .slice z_106.x.a4 z_106.t.marks.length z_106.x.c4, iv z_106.t.state], .agg #[iv A_107.code, iv A_107.n, str A_107.text]]) rfl) <| jJ 5 rfl (jS (v := .agg #[iv z_106.t.id, iv z_106.t.age, iv z_106.t.proc, iv z_106.t.began, .slice z_106.x.a0 z_106.t.calls.length z_106.x.c0, .slice z_106.x.a1 z_106.t.ans.length z_106.x.c1, .slice z_106.x.a2 z_106.t.rd.length z_106.x.c2, .slice z_106.x.a3 z_106.t.wr.length z_106.x.c3, .slice z_106.x.a4 z_106.t.marks.length z_106.x.c4, iv z_106.t.state]) rfl rfl) <| jJ 6 rfl (jS (v := .agg #[iv A_107.code, iv A_107.n, str A_107.text]) rfl rfl) ?_
        refine kL (i := 7) (j := 8) (by kernel_rfl) ?_ ?_
        · refine jP rfl rfl (jh (z := .agg #[iv 0, iv 0, iv 0, iv 0, .slice none 0 0, .slice none 0 0, .slice none 0 0, .slice none 0 0, .slice none 0 0, iv 0]) (cs := [iv 0, iv 0, iv 0, iv 0, .slice none 0 0, .slice none 0 0, .slice none 0 0, .slice none 0 0, .slice none 0 0, iv 0]) gF rfl) ?_
          rintro _ _ ⟨b_113, rfl, rfl⟩
          refine ⟨(by simp), ?_⟩
          refine jK (i := 8) ?_
          refine jP rfl rfl (jh (z := .agg #[iv 0, iv 0, str []]) (cs := [iv 0, iv 0, str []]) km rfl) ?_
          rintro _ _ ⟨b_115, rfl, rfl⟩
          refine ⟨(by simp), ?_⟩
          refine jK (i := 9) ?_
          refine jp rfl (ja 1 (vs := [iv z_106.t.id, iv z_106.t.age, iv z_106.t.proc, iv z_106.t.began, .slice z_106.x.a0 z_106.t.calls.length z_106.x.c0, .slice z_106.x.a1 z_106.t.ans.length z_106.x.c1, .slice z_106.x.a2 z_106.t.rd.length z_106.x.c2, .slice z_106.x.a3 z_106.t.wr.length z_106.x.c3, .slice z_106.x.a4 z_106.t.marks.length z_106.x.c4, iv z_106.t.state]) (cs' := [iv z_106.t.id, iv z_106.t.age, iv z_106.t.proc, iv z_106.t.began, .slice z_106.x.a0 z_106.t.calls.length z_106.x.c0, .slice z_106.x.a1 z_106.t.ans.length z_106.x.c1, .slice z_106.x.a2 z_106.t.rd.length z_106.x.c2, .slice z_106.x.a3 z_106.t.wr.length z_106.x.c3, .slice z_106.x.a4 z_106.t.marks.length z_106.x.c4, iv z_106.t.state]) rfl rfl rfl rfl kq rfl rfl (lb rfl) rfl) ?_
          rintro _ _ rfl
          refine jK (i := 10) ?_
          refine jo rfl (ja 0 (vs := [iv A_107.code, iv A_107.n, str A_107.text]) (cs' := [iv A_107.code, iv A_107.n, str A_107.text]) rfl rfl rfl rfl kc rfl rfl (lb rfl) rfl) ?_
          rintro _ _ rfl
          refine jt [0, 0, 0, 0, 0, 0, 0, 0] (A := [bk b_115 37 [iv A_107.code, iv A_107.n, str A_107.text], bk b_113 32 [iv z_106.t.id, iv z_106.t.age, iv z_106.t.proc, iv z_106.t.began, .slice z_106.x.a0 z_106.t.calls.length z_106.x.c0, .slice z_106.x.a1 z_106.t.ans.length z_106.x.c1, .slice z_106.x.a2 z_106.t.rd.length z_106.x.c2, .slice z_106.x.a3 z_106.t.wr.length z_106.x.c3, .slice z_106.x.a4 z_106.t.marks.length z_106.x.c4, iv z_106.t.state], Res.rows (rdsX z_106), rC l_96a l_96c l_96, bk b_8 37 [iv A_.code, iv A_.n, str A_.text], bk b_7 32 [iv z.t.id, iv z.t.age, iv z.t.proc, iv z.t.began, .slice z.x.a0 z.t.calls.length z.x.c0, .slice z.x.a1 z.t.ans.length z.x.c1, .slice z.x.a2 z.t.rd.length z.x.c2, .slice z.x.a3 z.t.wr.length z.x.c3, .slice z.x.a4 z.t.marks.length z.x.c4, iv z.t.state], Res.rows (rdsX z), rI l_2a l_2c l_2]) rfl ?_
          exact jz ⟨l_96, l_96a, l_96c, z_106, A_107, b_113, b_115, f_97, e_98, e_108, ha_109, hb_110, he_11, rfl, rfl, rfl⟩
        refine jP rfl rfl (jh (z := .agg #[iv 0, iv 0, str []]) (cs := [iv 0, iv 0, str []]) km rfl) ?_
        rintro _ _ ⟨b_116, rfl, rfl⟩
        refine ⟨(by simp), ?_⟩
        refine jK (i := 7) ?_
        refine jP rfl rfl (jh (z := .agg #[iv 0, iv 0, iv 0, iv 0, .slice none 0 0, .slice none 0 0, .slice none 0 0, .slice none 0 0, .slice none 0 0, iv 0]) (cs := [iv 0, iv 0, iv 0, iv 0, .slice none 0 0, .slice none 0 0, .slice none 0 0, .slice none 0 0, .slice none 0 0, iv 0]) gF rfl) ?_
        rintro _ _ ⟨b_118, rfl, rfl⟩
        refine ⟨(by simp), ?_⟩
        refine jK (i := 9) ?_
        refine jp rfl (ja 0 (vs := [iv z_106.t.id, iv z_106.t.age, iv z_106.t.proc, iv z_106.t.began, .slice z_106.x.a0 z_106.t.calls.length z_106.x.c0, .slice z_106.x.a1 z_106.t.ans.length z_106.x.c1, .slice z_106.x.a2 z_106.t.rd.length z_106.x.c2, .slice z_106.x.a3 z_106.t.wr.length z_106.x.c3, .slice z_106.x.a4 z_106.t.marks.length z_106.x.c4, iv z_106.t.state]) (cs' := [iv z_106.t.id, iv z_106.t.age, iv z_106.t.proc, iv z_106.t.began, .slice z_106.x.a0 z_106.t.calls.length z_106.x.c0, .slice z_106.x.a1 z_106.t.ans.length z_106.x.c1, .slice z_106.x.a2 z_106.t.rd.length z_106.x.c2, .slice z_106.x.a3 z_106.t.wr.length z_106.x.c3, .slice z_106.x.a4 z_106.t.marks.length z_106.x.c4, iv z_106.t.state]) rfl rfl rfl rfl kq rfl rfl (lb rfl) rfl) ?_
        rintro _ _ rfl
        refine jK (i := 10) ?_
        refine jo rfl (ja 1 (vs := [iv A_107.code, iv A_107.n, str A_107.text]) (cs' := [iv A_107.code, iv A_107.n, str A_107.text]) rfl rfl rfl rfl kc rfl rfl (lb rfl) rfl) ?_
        rintro _ _ rfl
        refine jt [1, 0, 0, 0, 0, 0, 0, 0] (A := [bk b_116 37 [iv A_107.code, iv A_107.n, str A_107.text], bk b_118 32 [iv z_106.t.id, iv z_106.t.age, iv z_106.t.proc, iv z_106.t.began, .slice z_106.x.a0 z_106.t.calls.length z_106.x.c0, .slice z_106.x.a1 z_106.t.ans.length z_106.x.c1, .slice z_106.x.a2 z_106.t.rd.length z_106.x.c2, .slice z_106.x.a3 z_106.t.wr.length z_106.x.c3, .slice z_106.x.a4 z_106.t.marks.length z_106.x.c4, iv z_106.t.state], Res.rows (rdsX z_106), rC l_96a l_96c l_96, bk b_8 37 [iv A_.code, iv A_.n, str A_.text], bk b_7 32 [iv z.t.id, iv z.t.age, iv z.t.proc, iv z.t.began, .slice z.x.a0 z.t.calls.length z.x.c0, .slice z.x.a1 z.t.ans.length z.x.c1, .slice z.x.a2 z.t.rd.length z.x.c2, .slice z.x.a3 z.t.wr.length z.x.c3, .slice z.x.a4 z.t.marks.length z.x.c4, iv z.t.state], Res.rows (rdsX z), rI l_2a l_2c l_2]) rfl ?_
        exact jz ⟨l_96, l_96a, l_96c, z_106, A_107, b_118, b_116, f_97, e_98, e_108, ha_109, hb_110, he_11, rfl, rfl, rfl⟩
      · refine jP rfl rfl (jh (z := .agg #[iv 0, iv 0, iv 0, iv 0, .slice none 0 0, .slice none 0 0, .slice none 0 0, .slice none 0 0, .slice none 0 0, iv 0]) (cs := [iv 0, iv 0, iv 0, iv 0, .slice none 0 0, .slice none 0 0, .slice none 0 0, .slice none 0 0, .slice none 0 0, iv 0]) gF rfl) ?_
        rintro _ _ ⟨b_119, rfl, rfl⟩
        refine ⟨(by simp), ?_⟩
        refine kL (i := 3) (j := 8) (by kernel_rfl) ?_ ?_
        · refine jP rfl rfl (jI [] Tryz.call10 rfl (Y_iTxAsk z (hI.lim (by omega)) l_96a l_96c l_96 3 f_97 (by omega) (hI.okT (by omega)) (fun h_ => grow3 (by omega)) (fun h_ => growT3 (by omega)) (⟨9, [], [], 0, 0, []⟩ : CL) ⟨by (try dsimp only); omega, by (try dsimp only); omega, by (try dsimp only); omega, (show List.length ([] : Str) ≤ 1048576 by decide), (show List.length ([] : Str) ≤ 1048576 by decide), (show List.length ([] : Str) ≤ 1048576 by decide)⟩) rfl (fun w hw => ⟨hw.see (i := 1) rfl, hw.seeRows 4 rfl, hw.hex hlow hpre.2⟩)) ?_
          rintro _ _ ⟨_, ⟨z_126, A_127, e_128, ha_129, hb_130, rfl, rfl⟩, rfl⟩
          refine ⟨(by simp), ?_⟩
          refine jJ 4 rfl (jC (v := .tuple #[.agg #[iv z_126.t.id, iv z_126.t.age, iv z_126.t.proc, iv z_126.t.began, .slice z_126.x.a0 z_126.t.calls.length z_126.x.c0, .slice z_126.x.a1 z_126.t.ans.length z_126.x.c1, .slice z_126.x.a2 z_126.t.rd.length z_126.x.c2, .slice z_126.x.a3 z_126.t.wr.length z_126.x.c3, .slice z_126.x.a4 z_126.t.marks.length z_126.x.c4, iv z_126.t.state], .agg #[iv A_127.code, iv A_127.n, str A_127.text]]) rfl) <| jJ 5 rfl (jS (v := .agg #[iv z_126.t.id, iv z_126.t.age, iv z_126.t.proc, iv z_126.t.began, .slice z_126.x.a0 z_126.t.calls.length z_126.x.c0, .slice z_126.x.a1 z_126.t.ans.length z_126.x.c1, .slice z_126.x.a2 z_126.t.rd.length z_126.x.c2, .slice z_126.x.a3 z_126.t.wr.length z_126.x.c3, .slice z_126.x.a4 z_126.t.marks.length z_126.x.c4, iv z_126.t.state]) rfl rfl) <| jJ 6 rfl (jS (v := .agg #[iv A_127.code, iv A_127.n, str A_127.text]) rfl rfl) <| jK (i := 8) ?_
          refine jP rfl rfl (jh (z := .agg #[iv 0, iv 0, str []]) (cs := [iv 0, iv 0, str []]) km rfl) ?_
          rintro _ _ ⟨b_132, rfl, rfl⟩
          refine ⟨(by simp), ?_⟩
          refine jK (i := 9) ?_
          refine jp rfl (ja 2 (vs := [iv z_126.t.id, iv z_126.t.age, iv z_126.t.proc, iv z_126.t.began, .slice z_126.x.a0 z_126.t.calls.length z_126.x.c0, .slice z_126.x.a1 z_126.t.ans.length z_126.x.c1, .slice z_126.x.a2 z_126.t.rd.length z_126.x.c2, .slice z_126.x.a3 z_126.t.wr.length z_126.x.c3, .slice z_126.x.a4 z_126.t.marks.length z_126.x.c4, iv z_126.t.state]) (cs' := [iv z_126.t.id, iv z_126.t.age, iv z_126.t.proc, iv z_126.t.began, .slice z_126.x.a0 z_126.t.calls.length z_126.x.c0, .slice z_126.x.a1 z_126.t.ans.length z_126.x.c1, .slice z_126.x.a2 z_126.t.rd.length z_126.x.c2, .slice z_126.x.a3 z_126.t.wr.length z_126.x.c3, .slice z_126.x.a4 z_126.t.marks.length z_126.x.c4, iv z_126.t.state]) rfl rfl rfl rfl kq rfl rfl (lb rfl) rfl) ?_
          rintro _ _ rfl
          refine jK (i := 10) ?_
          refine jo rfl (ja 0 (vs := [iv A_127.code, iv A_127.n, str A_127.text]) (cs' := [iv A_127.code, iv A_127.n, str A_127.text]) rfl rfl rfl rfl kc rfl rfl (lb rfl) rfl) ?_
          rintro _ _ rfl
          refine jt [0, 1, 0, 0, 0, 0, 0, 0] (A := [bk b_132 37 [iv A_127.code, iv A_127.n, str A_127.text], bk b_119 32 [iv z_126.t.id, iv z_126.t.age, iv z_126.t.proc, iv z_126.t.began, .slice z_126.x.a0 z_126.t.calls.length z_126.x.c0, .slice z_126.x.a1 z_126.t.ans.length z_126.x.c1, .slice z_126.x.a2 z_126.t.rd.length z_126.x.c2, .slice z_126.x.a3 z_126.t.wr.length z_126.x.c3, .slice z_126.x.a4 z_126.t.marks.length z_126.x.c4, iv z_126.t.state], Res.rows (rdsX z_126), rC l_96a l_96c l_96, bk b_8 37 [iv A_.code, iv A_.n, str A_.text], bk b_7 32 [iv z.t.id, iv z.t.age, iv z.t.proc, iv z.t.began, .slice z.x.a0 z.t.calls.length z.x.c0, .slice z.x.a1 z.t.ans.length z.x.c1, .slice z.x.a2 z.t.rd.length z.x.c2, .slice z.x.a3 z.t.wr.length z.x.c3, .slice z.x.a4 z.t.marks.length z.x.c4, iv z.t.state], Res.rows (rdsX z), rI l_2a l_2c l_2]) rfl ?_
          exact jz ⟨l_96, l_96a, l_96c, z_126, A_127, b_119, b_132, f_97, e_98, e_128, ha_129, hb_130, he_11, rfl, rfl, rfl⟩
        refine jP rfl rfl (jh (z := .agg #[iv 0, iv 0, str []]) (cs := [iv 0, iv 0, str []]) km rfl) ?_
        rintro _ _ ⟨b_133, rfl, rfl⟩
        refine ⟨(by simp), ?_⟩
        refine jK (i := 3) ?_
        refine jP rfl rfl (jI [] Tryz.call10 rfl (Y_iTxAsk z (hI.lim (by omega)) l_96a l_96c l_96 3 f_97 (by omega) (hI.okT (by omega)) (fun h_ => grow3 (by omega)) (fun h_ => growT3 (by omega)) (⟨9, [], [], 0, 0, []⟩ : CL) ⟨by (try dsimp only); omega, by (try dsimp only); omega, by (try dsimp only); omega, (show List.length ([] : Str) ≤ 1048576 by decide), (show List.length ([] : Str) ≤ 1048576 by decide), (show List.length ([] : Str) ≤ 1048576 by decide)⟩) rfl (fun w hw => ⟨hw.see (i := 2) rfl, hw.seeRows 5 rfl, hw.hex hlow hpre.2⟩)) ?_
        rintro _ _ ⟨_, ⟨z_139, A_140, e_141, ha_142, hb_143, rfl, rfl⟩, rfl⟩
        refine ⟨(by simp), ?_⟩
        refine jJ 4 rfl (jC (v := .tuple #[.agg #[iv z_139.t.id, iv z_139.t.age, iv z_139.t.proc, iv z_139.t.began, .slice z_139.x.a0 z_139.t.calls.length z_139.x.c0, .slice z_139.x.a1 z_139.t.ans.length z_139.x.c1, .slice z_139.x.a2 z_139.t.rd.length z_139.x.c2, .slice z_139.x.a3 z_139.t.wr.length z_139.x.c3, .slice z_139.x.a4 z_139.t.marks.length z_139.x.c4, iv z_139.t.state], .agg #[iv A_140.code, iv A_140.n, str A_140.text]]) rfl) <| jJ 5 rfl (jS (v := .agg #[iv z_139.t.id, iv z_139.t.age, iv z_139.t.proc, iv z_139.t.began, .slice z_139.x.a0 z_139.t.calls.length z_139.x.c0, .slice z_139.x.a1 z_139.t.ans.length z_139.x.c1, .slice z_139.x.a2 z_139.t.rd.length z_139.x.c2, .slice z_139.x.a3 z_139.t.wr.length z_139.x.c3, .slice z_139.x.a4 z_139.t.marks.length z_139.x.c4, iv z_139.t.state]) rfl rfl) <| jJ 6 rfl (jS (v := .agg #[iv A_140.code, iv A_140.n, str A_140.text]) rfl rfl) <| jK (i := 9) ?_
        refine jp rfl (ja 2 (vs := [iv z_139.t.id, iv z_139.t.age, iv z_139.t.proc, iv z_139.t.began, .slice z_139.x.a0 z_139.t.calls.length z_139.x.c0, .slice z_139.x.a1 z_139.t.ans.length z_139.x.c1, .slice z_139.x.a2 z_139.t.rd.length z_139.x.c2, .slice z_139.x.a3 z_139.t.wr.length z_139.x.c3, .slice z_139.x.a4 z_139.t.marks.length z_139.x.c4, iv z_139.t.state]) (cs' := [iv z_139.t.id, iv z_139.t.age, iv z_139.t.proc, iv z_139.t.began, .slice z_139.x.a0 z_139.t.calls.length z_139.x.c0, .slice z_139.x.a1 z_139.t.ans.length z_139.x.c1, .slice z_139.x.a2 z_139.t.rd.length z_139.x.c2, .slice z_139.x.a3 z_139.t.wr.length z_139.x.c3, .slice z_139.x.a4 z_139.t.marks.length z_139.x.c4, iv z_139.t.state]) rfl rfl rfl rfl kq rfl rfl (lb rfl) rfl) ?_
        rintro _ _ rfl
        refine jK (i := 10) ?_
        refine jo rfl (ja 1 (vs := [iv A_140.code, iv A_140.n, str A_140.text]) (cs' := [iv A_140.code, iv A_140.n, str A_140.text]) rfl rfl rfl rfl kc rfl rfl (lb rfl) rfl) ?_
        rintro _ _ rfl
        refine jt [1, 1, 0, 0, 0, 0, 0, 0] (A := [bk b_133 37 [iv A_140.code, iv A_140.n, str A_140.text], bk b_119 32 [iv z_139.t.id, iv z_139.t.age, iv z_139.t.proc, iv z_139.t.began, .slice z_139.x.a0 z_139.t.calls.length z_139.x.c0, .slice z_139.x.a1 z_139.t.ans.length z_139.x.c1, .slice z_139.x.a2 z_139.t.rd.length z_139.x.c2, .slice z_139.x.a3 z_139.t.wr.length z_139.x.c3, .slice z_139.x.a4 z_139.t.marks.length z_139.x.c4, iv z_139.t.state], Res.rows (rdsX z_139), rC l_96a l_96c l_96, bk b_8 37 [iv A_.code, iv A_.n, str A_.text], bk b_7 32 [iv z.t.id, iv z.t.age, iv z.t.proc, iv z.t.began, .slice z.x.a0 z.t.calls.length z.x.c0, .slice z.x.a1 z.t.ans.length z.x.c1, .slice z.x.a2 z.t.rd.length z.x.c2, .slice z.x.a3 z.t.wr.length z.x.c3, .slice z.x.a4 z.t.marks.length z.x.c4, iv z.t.state], Res.rows (rdsX z), rI l_2a l_2c l_2]) rfl ?_
        exact jz ⟨l_96, l_96a, l_96c, z_139, A_140, b_119, b_133, f_97, e_98, e_141, ha_142, hb_143, he_11, rfl, rfl, rfl⟩
      refine jP rfl rfl (jh (z := .agg #[iv 0, iv 0, str []]) (cs := [iv 0, iv 0, str []]) km rfl) ?_
      rintro _ _ ⟨b_144, rfl, rfl⟩
      refine ⟨(by simp), ?_⟩
      refine kL (i := 3) (j := 7) (by kernel_rfl) ?_ ?_
      · refine jP rfl rfl (jI [] Tryz.call10 rfl (Y_iTxAsk z (hI.lim (by omega)) l_96a l_96c l_96 3 f_97 (by omega) (hI.okT (by omega)) (fun h_ => grow3 (by omega)) (fun h_ => growT3 (by omega)) (⟨9, [], [], 0, 0, []⟩ : CL) ⟨by (try dsimp only); omega, by (try dsimp only); omega, by (try dsimp only); omega, (show List.length ([] : Str) ≤ 1048576 by decide), (show List.length ([] : Str) ≤ 1048576 by decide), (show List.length ([] : Str) ≤ 1048576 by decide)⟩) rfl (fun w hw => ⟨hw.see (i := 1) rfl, hw.seeRows 4 rfl, hw.hex hlow hpre.2⟩)) ?_
        rintro _ _ ⟨_, ⟨z_151, A_152, e_153, ha_154, hb_155, rfl, rfl⟩, rfl⟩
        refine ⟨(by simp), ?_⟩
        refine jJ 4 rfl (jC (v := .tuple #[.agg #[iv z_151.t.id, iv z_151.t.age, iv z_151.t.proc, iv z_151.t.began, .slice z_151.x.a0 z_151.t.calls.length z_151.x.c0, .slice z_151.x.a1 z_151.t.ans.length z_151.x.c1, .slice z_151.x.a2 z_151.t.rd.length z_151.x.c2, .slice z_151.x.a3 z_151.t.wr.length z_151.x.c3, .slice z_151.x.a4 z_151.t.marks.length z_151.x.c4, iv z_151.t.state], .agg #[iv A_152.code, iv A_152.n, str A_152.text]]) rfl) <| jJ 5 rfl (jS (v := .agg #[iv z_151.t.id, iv z_151.t.age, iv z_151.t.proc, iv z_151.t.began, .slice z_151.x.a0 z_151.t.calls.length z_151.x.c0, .slice z_151.x.a1 z_151.t.ans.length z_151.x.c1, .slice z_151.x.a2 z_151.t.rd.length z_151.x.c2, .slice z_151.x.a3 z_151.t.wr.length z_151.x.c3, .slice z_151.x.a4 z_151.t.marks.length z_151.x.c4, iv z_151.t.state]) rfl rfl) <| jJ 6 rfl (jS (v := .agg #[iv A_152.code, iv A_152.n, str A_152.text]) rfl rfl) <| jK (i := 7) ?_
        refine jP rfl rfl (jh (z := .agg #[iv 0, iv 0, iv 0, iv 0, .slice none 0 0, .slice none 0 0, .slice none 0 0, .slice none 0 0, .slice none 0 0, iv 0]) (cs := [iv 0, iv 0, iv 0, iv 0, .slice none 0 0, .slice none 0 0, .slice none 0 0, .slice none 0 0, .slice none 0 0, iv 0]) gF rfl) ?_
        rintro _ _ ⟨b_157, rfl, rfl⟩
        refine ⟨(by simp), ?_⟩
        refine jK (i := 9) ?_
        refine jp rfl (ja 0 (vs := [iv z_151.t.id, iv z_151.t.age, iv z_151.t.proc, iv z_151.t.began, .slice z_151.x.a0 z_151.t.calls.length z_151.x.c0, .slice z_151.x.a1 z_151.t.ans.length z_151.x.c1, .slice z_151.x.a2 z_151.t.rd.length z_151.x.c2, .slice z_151.x.a3 z_151.t.wr.length z_151.x.c3, .slice z_151.x.a4 z_151.t.marks.length z_151.x.c4, iv z_151.t.state]) (cs' := [iv z_151.t.id, iv z_151.t.age, iv z_151.t.proc, iv z_151.t.began, .slice z_151.x.a0 z_151.t.calls.length z_151.x.c0, .slice z_151.x.a1 z_151.t.ans.length z_151.x.c1, .slice z_151.x.a2 z_151.t.rd.length z_151.x.c2, .slice z_151.x.a3 z_151.t.wr.length z_151.x.c3, .slice z_151.x.a4 z_151.t.marks.length z_151.x.c4, iv z_151.t.state]) rfl rfl rfl rfl kq rfl rfl (lb rfl) rfl) ?_
        rintro _ _ rfl
        refine jK (i := 10) ?_
        refine jo rfl (ja 2 (vs := [iv A_152.code, iv A_152.n, str A_152.text]) (cs' := [iv A_152.code, iv A_152.n, str A_152.text]) rfl rfl rfl rfl kc rfl rfl (lb rfl) rfl) ?_
        rintro _ _ rfl
        refine jt [2, 0, 0, 0, 0, 0, 0, 0] (A := [bk b_144 37 [iv A_152.code, iv A_152.n, str A_152.text], bk b_157 32 [iv z_151.t.id, iv z_151.t.age, iv z_151.t.proc, iv z_151.t.began, .slice z_151.x.a0 z_151.t.calls.length z_151.x.c0, .slice z_151.x.a1 z_151.t.ans.length z_151.x.c1, .slice z_151.x.a2 z_151.t.rd.length z_151.x.c2, .slice z_151.x.a3 z_151.t.wr.length z_151.x.c3, .slice z_151.x.a4 z_151.t.marks.length z_151.x.c4, iv z_151.t.state], Res.rows (rdsX z_151), rC l_96a l_96c l_96, bk b_8 37 [iv A_.code, iv A_.n, str A_.text], bk b_7 32 [iv z.t.id, iv z.t.age, iv z.t.proc, iv z.t.began, .slice z.x.a0 z.t.calls.length z.x.c0, .slice z.x.a1 z.t.ans.length z.x.c1, .slice z.x.a2 z.t.rd.length z.x.c2, .slice z.x.a3 z.t.wr.length z.x.c3, .slice z.x.a4 z.t.marks.length z.x.c4, iv z.t.state], Res.rows (rdsX z), rI l_2a l_2c l_2]) rfl ?_
        exact jz ⟨l_96, l_96a, l_96c, z_151, A_152, b_157, b_144, f_97, e_98, e_153, ha_154, hb_155, he_11, rfl, rfl, rfl⟩
      refine jP rfl rfl (jh (z := .agg #[iv 0, iv 0, iv 0, iv 0, .slice none 0 0, .slice none 0 0, .slice none 0 0, .slice none 0 0, .slice none 0 0, iv 0]) (cs := [iv 0, iv 0, iv 0, iv 0, .slice none 0 0, .slice none 0 0, .slice none 0 0, .slice none 0 0, .slice none 0 0, iv 0]) gF rfl) ?_
      rintro _ _ ⟨b_158, rfl, rfl⟩
      refine ⟨(by simp), ?_⟩
      refine jK (i := 3) ?_
      refine jP rfl rfl (jI [] Tryz.call10 rfl (Y_iTxAsk z (hI.lim (by omega)) l_96a l_96c l_96 3 f_97 (by omega) (hI.okT (by omega)) (fun h_ => grow3 (by omega)) (fun h_ => growT3 (by omega)) (⟨9, [], [], 0, 0, []⟩ : CL) ⟨by (try dsimp only); omega, by (try dsimp only); omega, by (try dsimp only); omega, (show List.length ([] : Str) ≤ 1048576 by decide), (show List.length ([] : Str) ≤ 1048576 by decide), (show List.length ([] : Str) ≤ 1048576 by decide)⟩) rfl (fun w hw => ⟨hw.see (i := 2) rfl, hw.seeRows 5 rfl, hw.hex hlow hpre.2⟩)) ?_
      rintro _ _ ⟨_, ⟨z_164, A_165, e_166, ha_167, hb_168, rfl, rfl⟩, rfl⟩
      refine ⟨(by simp), ?_⟩
      refine jJ 4 rfl (jC (v := .tuple #[.agg #[iv z_164.t.id, iv z_164.t.age, iv z_164.t.proc, iv z_164.t.began, .slice z_164.x.a0 z_164.t.calls.length z_164.x.c0, .slice z_164.x.a1 z_164.t.ans.length z_164.x.c1, .slice z_164.x.a2 z_164.t.rd.length z_164.x.c2, .slice z_164.x.a3 z_164.t.wr.length z_164.x.c3, .slice z_164.x.a4 z_164.t.marks.length z_164.x.c4, iv z_164.t.state], .agg #[iv A_165.code, iv A_165.n, str A_165.text]]) rfl) <| jJ 5 rfl (jS (v := .agg #[iv z_164.t.id, iv z_164.t.age, iv z_164.t.proc, iv z_164.t.began, .slice z_164.x.a0 z_164.t.calls.length z_164.x.c0, .slice z_164.x.a1 z_164.t.ans.length z_164.x.c1, .slice z_164.x.a2 z_164.t.rd.length z_164.x.c2, .slice z_164.x.a3 z_164.t.wr.length z_164.x.c3, .slice z_164.x.a4 z_164.t.marks.length z_164.x.c4, iv z_164.t.state]) rfl rfl) <| jJ 6 rfl (jS (v := .agg #[iv A_165.code, iv A_165.n, str A_165.text]) rfl rfl) <| jK (i := 9) ?_
      refine jp rfl (ja 1 (vs := [iv z_164.t.id, iv z_164.t.age, iv z_164.t.proc, iv z_164.t.began, .slice z_164.x.a0 z_164.t.calls.length z_164.x.c0, .slice z_164.x.a1 z_164.t.ans.length z_164.x.c1, .slice z_164.x.a2 z_164.t.rd.length z_164.x.c2, .slice z_164.x.a3 z_164.t.wr.length z_164.x.c3, .slice z_164.x.a4 z_164.t.marks.length z_164.x.c4, iv z_164.t.state]) (cs' := [iv z_164.t.id, iv z_164.t.age, iv z_164.t.proc, iv z_164.t.began, .slice z_164.x.a0 z_164.t.calls.length z_164.x.c0, .slice z_164.x.a1 z_164.t.ans.length z_164.x.c1, .slice z_164.x.a2 z_164.t.rd.length z_164.x.c2, .slice z_164.x.a3 z_164.t.wr.length z_164.x.c3, .slice z_164.x.a4 z_164.t.marks.length z_164.x.c4, iv z_164.t.state]) rfl rfl rfl rfl kq rfl rfl (lb rfl) rfl) ?_
      rintro _ _ rfl
      refine jK (i := 10) ?_
      refine jo rfl (ja 2 (vs := [iv A_165.code, iv A_165.n, str A_165.text]) (cs' := [iv A_165.code, iv A_165.n, str A_165.text]) rfl rfl rfl rfl kc rfl rfl (lb rfl) rfl) ?_
      rintro _ _ rfl
      refine jt [2, 1, 0, 0, 0, 0, 0, 0] (A := [bk b_144 37 [iv A_165.code, iv A_165.n, str A_165.text], bk b_158 32 [iv z_164.t.id, iv z_164.t.age, iv z_164.t.proc, iv z_164.t.began, .slice z_164.x.a0 z_164.t.calls.length z_164.x.c0, .slice z_164.x.a1 z_164.t.ans.length z_164.x.c1, .slice z_164.x.a2 z_164.t.rd.length z_164.x.c2, .slice z_164.x.a3 z_164.t.wr.length z_164.x.c3, .slice z_164.x.a4 z_164.t.marks.length z_164.x.c4, iv z_164.t.state], Res.rows (rdsX z_164), rC l_96a l_96c l_96, bk b_8 37 [iv A_.code, iv A_.n, str A_.text], bk b_7 32 [iv z.t.id, iv z.t.age, iv z.t.proc, iv z.t.began, .slice z.x.a0 z.t.calls.length z.x.c0, .slice z.x.a1 z.t.ans.length z.x.c1, .slice z.x.a2 z.t.rd.length z.x.c2, .slice z.x.a3 z.t.wr.length z.x.c3, .slice z.x.a4 z.t.marks.length z.x.c4, iv z.t.state], Res.rows (rdsX z), rI l_2a l_2c l_2]) rfl ?_
      exact jz ⟨l_96, l_96a, l_96c, z_164, A_165, b_158, b_144, f_97, e_98, e_166, ha_167, hb_168, he_11, rfl, rfl, rfl⟩
    · refine jP rfl rfl (jh (z := .agg #[iv 0, iv 0, iv 0, iv 0, .slice none 0 0, .slice none 0 0, .slice none 0 0, .slice none 0 0, .slice none 0 0, iv 0]) (cs := [iv 0, iv 0, iv 0, iv 0, .slice none 0 0, .slice none 0 0, .slice none 0 0, .slice none 0 0, .slice none 0 0, iv 0]) gF rfl) ?_
      rintro _ _ ⟨b_169, rfl, rfl⟩
      refine ⟨(by simp), ?_⟩
      refine kL (i := 0) (j := 8) (by kernel_rfl) ?_ ?_
      · refine jP rfl rfl (jI [] Tryz.call11 rfl (D_boot) rfl (fun _ _ => trivial)) ?_
        rintro _ _ ⟨_, ⟨l_174a, l_174c, l_174, e_176, f_175, rfl, rfl⟩, rfl⟩
        refine ⟨(by simp), ?_⟩
        refine kL (i := 3) (j := 8) (by kernel_rfl) ?_ ?_
        · refine jP rfl rfl (jI [] Tryz.call10 rfl (Y_iTxAsk z (hI.lim (by omega)) l_174a l_174c l_174 3 f_175 (by omega) (hI.okT (by omega)) (fun h_ => grow3 (by omega)) (fun h_ => growT3 (by omega)) (⟨9, [], [], 0, 0, []⟩ : CL) ⟨by (try dsimp only); omega, by (try dsimp only); omega, by (try dsimp only); omega, (show List.length ([] : Str) ≤ 1048576 by decide), (show List.length ([] : Str) ≤ 1048576 by decide), (show List.length ([] : Str) ≤ 1048576 by decide)⟩) rfl (fun w hw => ⟨hw.see (i := 0) rfl, hw.seeRows 4 rfl, hw.hex hlow hpre.2⟩)) ?_
          rintro _ _ ⟨_, ⟨z_183, A_184, e_185, ha_186, hb_187, rfl, rfl⟩, rfl⟩
          refine ⟨(by simp), ?_⟩
          refine jJ 4 rfl (jC (v := .tuple #[.agg #[iv z_183.t.id, iv z_183.t.age, iv z_183.t.proc, iv z_183.t.began, .slice z_183.x.a0 z_183.t.calls.length z_183.x.c0, .slice z_183.x.a1 z_183.t.ans.length z_183.x.c1, .slice z_183.x.a2 z_183.t.rd.length z_183.x.c2, .slice z_183.x.a3 z_183.t.wr.length z_183.x.c3, .slice z_183.x.a4 z_183.t.marks.length z_183.x.c4, iv z_183.t.state], .agg #[iv A_184.code, iv A_184.n, str A_184.text]]) rfl) <| jJ 5 rfl (jS (v := .agg #[iv z_183.t.id, iv z_183.t.age, iv z_183.t.proc, iv z_183.t.began, .slice z_183.x.a0 z_183.t.calls.length z_183.x.c0, .slice z_183.x.a1 z_183.t.ans.length z_183.x.c1, .slice z_183.x.a2 z_183.t.rd.length z_183.x.c2, .slice z_183.x.a3 z_183.t.wr.length z_183.x.c3, .slice z_183.x.a4 z_183.t.marks.length z_183.x.c4, iv z_183.t.state]) rfl rfl) <| jJ 6 rfl (jS (v := .agg #[iv A_184.code, iv A_184.n, str A_184.text]) rfl rfl) <| jK (i := 8) ?_
          refine jP rfl rfl (jh (z := .agg #[iv 0, iv 0, str []]) (cs := [iv 0, iv 0, str []]) km rfl) ?_
          rintro _ _ ⟨b_189, rfl, rfl⟩
          refine ⟨(by simp), ?_⟩
          refine jK (i := 9) ?_
          refine jp rfl (ja 3 (vs := [iv z_183.t.id, iv z_183.t.age, iv z_183.t.proc, iv z_183.t.began, .slice z_183.x.a0 z_183.t.calls.length z_183.x.c0, .slice z_183.x.a1 z_183.t.ans.length z_183.x.c1, .slice z_183.x.a2 z_183.t.rd.length z_183.x.c2, .slice z_183.x.a3 z_183.t.wr.length z_183.x.c3, .slice z_183.x.a4 z_183.t.marks.length z_183.x.c4, iv z_183.t.state]) (cs' := [iv z_183.t.id, iv z_183.t.age, iv z_183.t.proc, iv z_183.t.began, .slice z_183.x.a0 z_183.t.calls.length z_183.x.c0, .slice z_183.x.a1 z_183.t.ans.length z_183.x.c1, .slice z_183.x.a2 z_183.t.rd.length z_183.x.c2, .slice z_183.x.a3 z_183.t.wr.length z_183.x.c3, .slice z_183.x.a4 z_183.t.marks.length z_183.x.c4, iv z_183.t.state]) rfl rfl rfl rfl kq rfl rfl (lb rfl) rfl) ?_
          rintro _ _ rfl
          refine jK (i := 10) ?_
          refine jo rfl (ja 0 (vs := [iv A_184.code, iv A_184.n, str A_184.text]) (cs' := [iv A_184.code, iv A_184.n, str A_184.text]) rfl rfl rfl rfl kc rfl rfl (lb rfl) rfl) ?_
          rintro _ _ rfl
          refine jt [0, 2, 0, 0, 0, 0, 0, 0] (A := [bk b_189 37 [iv A_184.code, iv A_184.n, str A_184.text], bk b_169 32 [iv z_183.t.id, iv z_183.t.age, iv z_183.t.proc, iv z_183.t.began, .slice z_183.x.a0 z_183.t.calls.length z_183.x.c0, .slice z_183.x.a1 z_183.t.ans.length z_183.x.c1, .slice z_183.x.a2 z_183.t.rd.length z_183.x.c2, .slice z_183.x.a3 z_183.t.wr.length z_183.x.c3, .slice z_183.x.a4 z_183.t.marks.length z_183.x.c4, iv z_183.t.state], Res.rows (rdsX z_183), rC l_174a l_174c l_174, bk b_8 37 [iv A_.code, iv A_.n, str A_.text], bk b_7 32 [iv z.t.id, iv z.t.age, iv z.t.proc, iv z.t.began, .slice z.x.a0 z.t.calls.length z.x.c0, .slice z.x.a1 z.t.ans.length z.x.c1, .slice z.x.a2 z.t.rd.length z.x.c2, .slice z.x.a3 z.t.wr.length z.x.c3, .slice z.x.a4 z.t.marks.length z.x.c4, iv z.t.state], Res.rows (rdsX z), rI l_2a l_2c l_2]) rfl ?_
          exact jz ⟨l_174, l_174a, l_174c, z_183, A_184, b_169, b_189, f_175, e_176, e_185, ha_186, hb_187, he_11, rfl, rfl, rfl⟩
        refine jP rfl rfl (jh (z := .agg #[iv 0, iv 0, str []]) (cs := [iv 0, iv 0, str []]) km rfl) ?_
        rintro _ _ ⟨b_190, rfl, rfl⟩
        refine ⟨(by simp), ?_⟩
        refine jK (i := 3) ?_
        refine jP rfl rfl (jI [] Tryz.call10 rfl (Y_iTxAsk z (hI.lim (by omega)) l_174a l_174c l_174 3 f_175 (by omega) (hI.okT (by omega)) (fun h_ => grow3 (by omega)) (fun h_ => growT3 (by omega)) (⟨9, [], [], 0, 0, []⟩ : CL) ⟨by (try dsimp only); omega, by (try dsimp only); omega, by (try dsimp only); omega, (show List.length ([] : Str) ≤ 1048576 by decide), (show List.length ([] : Str) ≤ 1048576 by decide), (show List.length ([] : Str) ≤ 1048576 by decide)⟩) rfl (fun w hw => ⟨hw.see (i := 1) rfl, hw.seeRows 5 rfl, hw.hex hlow hpre.2⟩)) ?_
        rintro _ _ ⟨_, ⟨z_196, A_197, e_198, ha_199, hb_200, rfl, rfl⟩, rfl⟩
        refine ⟨(by simp), ?_⟩
        refine jJ 4 rfl (jC (v := .tuple #[.agg #[iv z_196.t.id, iv z_196.t.age, iv z_196.t.proc, iv z_196.t.began, .slice z_196.x.a0 z_196.t.calls.length z_196.x.c0, .slice z_196.x.a1 z_196.t.ans.length z_196.x.c1, .slice z_196.x.a2 z_196.t.rd.length z_196.x.c2, .slice z_196.x.a3 z_196.t.wr.length z_196.x.c3, .slice z_196.x.a4 z_196.t.marks.length z_196.x.c4, iv z_196.t.state], .agg #[iv A_197.code, iv A_197.n, str A_197.text]]) rfl) <| jJ 5 rfl (jS (v := .agg #[iv z_196.t.id, iv z_196.t.age, iv z_196.t.proc, iv z_196.t.began, .slice z_196.x.a0 z_196.t.calls.length z_196.x.c0, .slice z_196.x.a1 z_196.t.ans.length z_196.x.c1, .slice z_196.x.a2 z_196.t.rd.length z_196.x.c2, .slice z_196.x.a3 z_196.t.wr.length z_196.x.c3, .slice z_196.x.a4 z_196.t.marks.length z_196.x.c4, iv z_196.t.state]) rfl rfl) <| jJ 6 rfl (jS (v := .agg #[iv A_197.code, iv A_197.n, str A_197.text]) rfl rfl) <| jK (i := 9) ?_
        refine jp rfl (ja 3 (vs := [iv z_196.t.id, iv z_196.t.age, iv z_196.t.proc, iv z_196.t.began, .slice z_196.x.a0 z_196.t.calls.length z_196.x.c0, .slice z_196.x.a1 z_196.t.ans.length z_196.x.c1, .slice z_196.x.a2 z_196.t.rd.length z_196.x.c2, .slice z_196.x.a3 z_196.t.wr.length z_196.x.c3, .slice z_196.x.a4 z_196.t.marks.length z_196.x.c4, iv z_196.t.state]) (cs' := [iv z_196.t.id, iv z_196.t.age, iv z_196.t.proc, iv z_196.t.began, .slice z_196.x.a0 z_196.t.calls.length z_196.x.c0, .slice z_196.x.a1 z_196.t.ans.length z_196.x.c1, .slice z_196.x.a2 z_196.t.rd.length z_196.x.c2, .slice z_196.x.a3 z_196.t.wr.length z_196.x.c3, .slice z_196.x.a4 z_196.t.marks.length z_196.x.c4, iv z_196.t.state]) rfl rfl rfl rfl kq rfl rfl (lb rfl) rfl) ?_
        rintro _ _ rfl
        refine jK (i := 10) ?_
        refine jo rfl (ja 1 (vs := [iv A_197.code, iv A_197.n, str A_197.text]) (cs' := [iv A_197.code, iv A_197.n, str A_197.text]) rfl rfl rfl rfl kc rfl rfl (lb rfl) rfl) ?_
        rintro _ _ rfl
        refine jt [1, 2, 0, 0, 0, 0, 0, 0] (A := [bk b_190 37 [iv A_197.code, iv A_197.n, str A_197.text], bk b_169 32 [iv z_196.t.id, iv z_196.t.age, iv z_196.t.proc, iv z_196.t.began, .slice z_196.x.a0 z_196.t.calls.length z_196.x.c0, .slice z_196.x.a1 z_196.t.ans.length z_196.x.c1, .slice z_196.x.a2 z_196.t.rd.length z_196.x.c2, .slice z_196.x.a3 z_196.t.wr.length z_196.x.c3, .slice z_196.x.a4 z_196.t.marks.length z_196.x.c4, iv z_196.t.state], Res.rows (rdsX z_196), rC l_174a l_174c l_174, bk b_8 37 [iv A_.code, iv A_.n, str A_.text], bk b_7 32 [iv z.t.id, iv z.t.age, iv z.t.proc, iv z.t.began, .slice z.x.a0 z.t.calls.length z.x.c0, .slice z.x.a1 z.t.ans.length z.x.c1, .slice z.x.a2 z.t.rd.length z.x.c2, .slice z.x.a3 z.t.wr.length z.x.c3, .slice z.x.a4 z.t.marks.length z.x.c4, iv z.t.state], Res.rows (rdsX z), rI l_2a l_2c l_2]) rfl ?_
        exact jz ⟨l_174, l_174a, l_174c, z_196, A_197, b_169, b_190, f_175, e_176, e_198, ha_199, hb_200, he_11, rfl, rfl, rfl⟩
      refine jP rfl rfl (jh (z := .agg #[iv 0, iv 0, str []]) (cs := [iv 0, iv 0, str []]) km rfl) ?_
      rintro _ _ ⟨b_201, rfl, rfl⟩
      refine ⟨(by simp), ?_⟩
      refine jK (i := 0) ?_
      refine jP rfl rfl (jI [] Tryz.call11 rfl (D_boot) rfl (fun _ _ => trivial)) ?_
      rintro _ _ ⟨_, ⟨l_205a, l_205c, l_205, e_207, f_206, rfl, rfl⟩, rfl⟩
      refine ⟨(by simp), ?_⟩
      refine jK (i := 3) ?_
      refine jP rfl rfl (jI [] Tryz.call10 rfl (Y_iTxAsk z (hI.lim (by omega)) l_205a l_205c l_205 3 f_206 (by omega) (hI.okT (by omega)) (fun h_ => grow3 (by omega)) (fun h_ => growT3 (by omega)) (⟨9, [], [], 0, 0, []⟩ : CL) ⟨by (try dsimp only); omega, by (try dsimp only); omega, by (try dsimp only); omega, (show List.length ([] : Str) ≤ 1048576 by decide), (show List.length ([] : Str) ≤ 1048576 by decide), (show List.length ([] : Str) ≤ 1048576 by decide)⟩) rfl (fun w hw => ⟨hw.see (i := 0) rfl, hw.seeRows 5 rfl, hw.hex hlow hpre.2⟩)) ?_
      rintro _ _ ⟨_, ⟨z_213, A_214, e_215, ha_216, hb_217, rfl, rfl⟩, rfl⟩
      refine ⟨(by simp), ?_⟩
      refine jJ 4 rfl (jC (v := .tuple #[.agg #[iv z_213.t.id, iv z_213.t.age, iv z_213.t.proc, iv z_213.t.began, .slice z_213.x.a0 z_213.t.calls.length z_213.x.c0, .slice z_213.x.a1 z_213.t.ans.length z_213.x.c1, .slice z_213.x.a2 z_213.t.rd.length z_213.x.c2, .slice z_213.x.a3 z_213.t.wr.length z_213.x.c3, .slice z_213.x.a4 z_213.t.marks.length z_213.x.c4, iv z_213.t.state], .agg #[iv A_214.code, iv A_214.n, str A_214.text]]) rfl) <| jJ 5 rfl (jS (v := .agg #[iv z_213.t.id, iv z_213.t.age, iv z_213.t.proc, iv z_213.t.began, .slice z_213.x.a0 z_213.t.calls.length z_213.x.c0, .slice z_213.x.a1 z_213.t.ans.length z_213.x.c1, .slice z_213.x.a2 z_213.t.rd.length z_213.x.c2, .slice z_213.x.a3 z_213.t.wr.length z_213.x.c3, .slice z_213.x.a4 z_213.t.marks.length z_213.x.c4, iv z_213.t.state]) rfl rfl) <| jJ 6 rfl (jS (v := .agg #[iv A_214.code, iv A_214.n, str A_214.text]) rfl rfl) <| jK (i := 9) ?_
      refine jp rfl (ja 3 (vs := [iv z_213.t.id, iv z_213.t.age, iv z_213.t.proc, iv z_213.t.began, .slice z_213.x.a0 z_213.t.calls.length z_213.x.c0, .slice z_213.x.a1 z_213.t.ans.length z_213.x.c1, .slice z_213.x.a2 z_213.t.rd.length z_213.x.c2, .slice z_213.x.a3 z_213.t.wr.length z_213.x.c3, .slice z_213.x.a4 z_213.t.marks.length z_213.x.c4, iv z_213.t.state]) (cs' := [iv z_213.t.id, iv z_213.t.age, iv z_213.t.proc, iv z_213.t.began, .slice z_213.x.a0 z_213.t.calls.length z_213.x.c0, .slice z_213.x.a1 z_213.t.ans.length z_213.x.c1, .slice z_213.x.a2 z_213.t.rd.length z_213.x.c2, .slice z_213.x.a3 z_213.t.wr.length z_213.x.c3, .slice z_213.x.a4 z_213.t.marks.length z_213.x.c4, iv z_213.t.state]) rfl rfl rfl rfl kq rfl rfl (lb rfl) rfl) ?_
      rintro _ _ rfl
      refine jK (i := 10) ?_
      refine jo rfl (ja 2 (vs := [iv A_214.code, iv A_214.n, str A_214.text]) (cs' := [iv A_214.code, iv A_214.n, str A_214.text]) rfl rfl rfl rfl kc rfl rfl (lb rfl) rfl) ?_
      rintro _ _ rfl
      refine jt [2, 2, 0, 0, 0, 0, 0, 0] (A := [bk b_201 37 [iv A_214.code, iv A_214.n, str A_214.text], bk b_169 32 [iv z_213.t.id, iv z_213.t.age, iv z_213.t.proc, iv z_213.t.began, .slice z_213.x.a0 z_213.t.calls.length z_213.x.c0, .slice z_213.x.a1 z_213.t.ans.length z_213.x.c1, .slice z_213.x.a2 z_213.t.rd.length z_213.x.c2, .slice z_213.x.a3 z_213.t.wr.length z_213.x.c3, .slice z_213.x.a4 z_213.t.marks.length z_213.x.c4, iv z_213.t.state], Res.rows (rdsX z_213), rC l_205a l_205c l_205, bk b_8 37 [iv A_.code, iv A_.n, str A_.text], bk b_7 32 [iv z.t.id, iv z.t.age, iv z.t.proc, iv z.t.began, .slice z.x.a0 z.t.calls.length z.x.c0, .slice z.x.a1 z.t.ans.length z.x.c1, .slice z.x.a2 z.t.rd.length z.x.c2, .slice z.x.a3 z.t.wr.length z.x.c3, .slice z.x.a4 z.t.marks.length z.x.c4, iv z.t.state], Res.rows (rdsX z), rI l_2a l_2c l_2]) rfl ?_
      exact jz ⟨l_205, l_205a, l_205c, z_213, A_214, b_169, b_201, f_206, e_207, e_215, ha_216, hb_217, he_11, rfl, rfl, rfl⟩
    refine jP rfl rfl (jh (z := .agg #[iv 0, iv 0, str []]) (cs := [iv 0, iv 0, str []]) km rfl) ?_
    rintro _ _ ⟨b_218, rfl, rfl⟩
    refine ⟨(by simp), ?_⟩
    refine kL (i := 0) (j := 7) (by kernel_rfl) ?_ ?_
    · refine jP rfl rfl (jI [] Tryz.call11 rfl (D_boot) rfl (fun _ _ => trivial)) ?_
      rintro _ _ ⟨_, ⟨l_223a, l_223c, l_223, e_225, f_224, rfl, rfl⟩, rfl⟩
      refine ⟨(by simp), ?_⟩
      refine kL (i := 3) (j := 7) (by kernel_rfl) ?_ ?_
      · refine jP rfl rfl (jI [] Tryz.call10 rfl (Y_iTxAsk z (hI.lim (by omega)) l_223a l_223c l_223 3 f_224 (by omega) (hI.okT (by omega)) (fun h_ => grow3 (by omega)) (fun h_ => growT3 (by omega)) (⟨9, [], [], 0, 0, []⟩ : CL) ⟨by (try dsimp only); omega, by (try dsimp only); omega, by (try dsimp only); omega, (show List.length ([] : Str) ≤ 1048576 by decide), (show List.length ([] : Str) ≤ 1048576 by decide), (show List.length ([] : Str) ≤ 1048576 by decide)⟩) rfl (fun w hw => ⟨hw.see (i := 0) rfl, hw.seeRows 4 rfl, hw.hex hlow hpre.2⟩)) ?_
        rintro _ _ ⟨_, ⟨z_232, A_233, e_234, ha_235, hb_236, rfl, rfl⟩, rfl⟩
        refine ⟨(by simp), ?_⟩
        refine jJ 4 rfl (jC (v := .tuple #[.agg #[iv z_232.t.id, iv z_232.t.age, iv z_232.t.proc, iv z_232.t.began, .slice z_232.x.a0 z_232.t.calls.length z_232.x.c0, .slice z_232.x.a1 z_232.t.ans.length z_232.x.c1, .slice z_232.x.a2 z_232.t.rd.length z_232.x.c2, .slice z_232.x.a3 z_232.t.wr.length z_232.x.c3, .slice z_232.x.a4 z_232.t.marks.length z_232.x.c4, iv z_232.t.state], .agg #[iv A_233.code, iv A_233.n, str A_233.text]]) rfl) <| jJ 5 rfl (jS (v := .agg #[iv z_232.t.id, iv z_232.t.age, iv z_232.t.proc, iv z_232.t.began, .slice z_232.x.a0 z_232.t.calls.length z_232.x.c0, .slice z_232.x.a1 z_232.t.ans.length z_232.x.c1, .slice z_232.x.a2 z_232.t.rd.length z_232.x.c2, .slice z_232.x.a3 z_232.t.wr.length z_232.x.c3, .slice z_232.x.a4 z_232.t.marks.length z_232.x.c4, iv z_232.t.state]) rfl rfl) <| jJ 6 rfl (jS (v := .agg #[iv A_233.code, iv A_233.n, str A_233.text]) rfl rfl) <| jK (i := 7) ?_
        refine jP rfl rfl (jh (z := .agg #[iv 0, iv 0, iv 0, iv 0, .slice none 0 0, .slice none 0 0, .slice none 0 0, .slice none 0 0, .slice none 0 0, iv 0]) (cs := [iv 0, iv 0, iv 0, iv 0, .slice none 0 0, .slice none 0 0, .slice none 0 0, .slice none 0 0, .slice none 0 0, iv 0]) gF rfl) ?_
        rintro _ _ ⟨b_238, rfl, rfl⟩
        refine ⟨(by simp), ?_⟩
        refine jK (i := 9) ?_
        refine jp rfl (ja 0 (vs := [iv z_232.t.id, iv z_232.t.age, iv z_232.t.proc, iv z_232.t.began, .slice z_232.x.a0 z_232.t.calls.length z_232.x.c0, .slice z_232.x.a1 z_232.t.ans.length z_232.x.c1, .slice z_232.x.a2 z_232.t.rd.length z_232.x.c2, .slice z_232.x.a3 z_232.t.wr.length z_232.x.c3, .slice z_232.x.a4 z_232.t.marks.length z_232.x.c4, iv z_232.t.state]) (cs' := [iv z_232.t.id, iv z_232.t.age, iv z_232.t.proc, iv z_232.t.began, .slice z_232.x.a0 z_232.t.calls.length z_232.x.c0, .slice z_232.x.a1 z_232.t.ans.length z_232.x.c1, .slice z_232.x.a2 z_232.t.rd.length z_232.x.c2, .slice z_232.x.a3 z_232.t.wr.length z_232.x.c3, .slice z_232.x.a4 z_232.t.marks.length z_232.x.c4, iv z_232.t.state]) rfl rfl rfl rfl kq rfl rfl (lb rfl) rfl) ?_
        rintro _ _ rfl
        refine jK (i := 10) ?_
        refine jo rfl (ja 3 (vs := [iv A_233.code, iv A_233.n, str A_233.text]) (cs' := [iv A_233.code, iv A_233.n, str A_233.text]) rfl rfl rfl rfl kc rfl rfl (lb rfl) rfl) ?_
        rintro _ _ rfl
        refine jt [3, 0, 0, 0, 0, 0, 0, 0] (A := [bk b_218 37 [iv A_233.code, iv A_233.n, str A_233.text], bk b_238 32 [iv z_232.t.id, iv z_232.t.age, iv z_232.t.proc, iv z_232.t.began, .slice z_232.x.a0 z_232.t.calls.length z_232.x.c0, .slice z_232.x.a1 z_232.t.ans.length z_232.x.c1, .slice z_232.x.a2 z_232.t.rd.length z_232.x.c2, .slice z_232.x.a3 z_232.t.wr.length z_232.x.c3, .slice z_232.x.a4 z_232.t.marks.length z_232.x.c4, iv z_232.t.state], Res.rows (rdsX z_232), rC l_223a l_223c l_223, bk b_8 37 [iv A_.code, iv A_.n, str A_.text], bk b_7 32 [iv z.t.id, iv z.t.age, iv z.t.proc, iv z.t.began, .slice z.x.a0 z.t.calls.length z.x.c0, .slice z.x.a1 z.t.ans.length z.x.c1, .slice z.x.a2 z.t.rd.length z.x.c2, .slice z.x.a3 z.t.wr.length z.x.c3, .slice z.x.a4 z.t.marks.length z.x.c4, iv z.t.state], Res.rows (rdsX z), rI l_2a l_2c l_2]) rfl ?_
        exact jz ⟨l_223, l_223a, l_223c, z_232, A_233, b_238, b_218, f_224, e_225, e_234, ha_235, hb_236, he_11, rfl, rfl, rfl⟩
      refine jP rfl rfl (jh (z := .agg #[iv 0, iv 0, iv 0, iv 0, .slice none 0 0, .slice none 0 0, .slice none 0 0, .slice none 0 0, .slice none 0 0, iv 0]) (cs := [iv 0, iv 0, iv 0, iv 0, .slice none 0 0, .slice none 0 0, .slice none 0 0, .slice none 0 0, .slice none 0 0, iv 0]) gF rfl) ?_
      rintro _ _ ⟨b_239, rfl, rfl⟩
      refine ⟨(by simp), ?_⟩
      refine jK (i := 3) ?_
      refine jP rfl rfl (jI [] Tryz.call10 rfl (Y_iTxAsk z (hI.lim (by omega)) l_223a l_223c l_223 3 f_224 (by omega) (hI.okT (by omega)) (fun h_ => grow3 (by omega)) (fun h_ => growT3 (by omega)) (⟨9, [], [], 0, 0, []⟩ : CL) ⟨by (try dsimp only); omega, by (try dsimp only); omega, by (try dsimp only); omega, (show List.length ([] : Str) ≤ 1048576 by decide), (show List.length ([] : Str) ≤ 1048576 by decide), (show List.length ([] : Str) ≤ 1048576 by decide)⟩) rfl (fun w hw => ⟨hw.see (i := 1) rfl, hw.seeRows 5 rfl, hw.hex hlow hpre.2⟩)) ?_
      rintro _ _ ⟨_, ⟨z_245, A_246, e_247, ha_248, hb_249, rfl, rfl⟩, rfl⟩
      refine ⟨(by simp), ?_⟩
      refine jJ 4 rfl (jC (v := .tuple #[.agg #[iv z_245.t.id, iv z_245.t.age, iv z_245.t.proc, iv z_245.t.began, .slice z_245.x.a0 z_245.t.calls.length z_245.x.c0, .slice z_245.x.a1 z_245.t.ans.length z_245.x.c1, .slice z_245.x.a2 z_245.t.rd.length z_245.x.c2, .slice z_245.x.a3 z_245.t.wr.length z_245.x.c3, .slice z_245.x.a4 z_245.t.marks.length z_245.x.c4, iv z_245.t.state], .agg #[iv A_246.code, iv A_246.n, str A_246.text]]) rfl) <| jJ 5 rfl (jS (v := .agg #[iv z_245.t.id, iv z_245.t.age, iv z_245.t.proc, iv z_245.t.began, .slice z_245.x.a0 z_245.t.calls.length z_245.x.c0, .slice z_245.x.a1 z_245.t.ans.length z_245.x.c1, .slice z_245.x.a2 z_245.t.rd.length z_245.x.c2, .slice z_245.x.a3 z_245.t.wr.length z_245.x.c3, .slice z_245.x.a4 z_245.t.marks.length z_245.x.c4, iv z_245.t.state]) rfl rfl) <| jJ 6 rfl (jS (v := .agg #[iv A_246.code, iv A_246.n, str A_246.text]) rfl rfl) <| jK (i := 9) ?_
      refine jp rfl (ja 1 (vs := [iv z_245.t.id, iv z_245.t.age, iv z_245.t.proc, iv z_245.t.began, .slice z_245.x.a0 z_245.t.calls.length z_245.x.c0, .slice z_245.x.a1 z_245.t.ans.length z_245.x.c1, .slice z_245.x.a2 z_245.t.rd.length z_245.x.c2, .slice z_245.x.a3 z_245.t.wr.length z_245.x.c3, .slice z_245.x.a4 z_245.t.marks.length z_245.x.c4, iv z_245.t.state]) (cs' := [iv z_245.t.id, iv z_245.t.age, iv z_245.t.proc, iv z_245.t.began, .slice z_245.x.a0 z_245.t.calls.length z_245.x.c0, .slice z_245.x.a1 z_245.t.ans.length z_245.x.c1, .slice z_245.x.a2 z_245.t.rd.length z_245.x.c2, .slice z_245.x.a3 z_245.t.wr.length z_245.x.c3, .slice z_245.x.a4 z_245.t.marks.length z_245.x.c4, iv z_245.t.state]) rfl rfl rfl rfl kq rfl rfl (lb rfl) rfl) ?_
      rintro _ _ rfl
      refine jK (i := 10) ?_
      refine jo rfl (ja 3 (vs := [iv A_246.code, iv A_246.n, str A_246.text]) (cs' := [iv A_246.code, iv A_246.n, str A_246.text]) rfl rfl rfl rfl kc rfl rfl (lb rfl) rfl) ?_
      rintro _ _ rfl
      refine jt [3, 1, 0, 0, 0, 0, 0, 0] (A := [bk b_218 37 [iv A_246.code, iv A_246.n, str A_246.text], bk b_239 32 [iv z_245.t.id, iv z_245.t.age, iv z_245.t.proc, iv z_245.t.began, .slice z_245.x.a0 z_245.t.calls.length z_245.x.c0, .slice z_245.x.a1 z_245.t.ans.length z_245.x.c1, .slice z_245.x.a2 z_245.t.rd.length z_245.x.c2, .slice z_245.x.a3 z_245.t.wr.length z_245.x.c3, .slice z_245.x.a4 z_245.t.marks.length z_245.x.c4, iv z_245.t.state], Res.rows (rdsX z_245), rC l_223a l_223c l_223, bk b_8 37 [iv A_.code, iv A_.n, str A_.text], bk b_7 32 [iv z.t.id, iv z.t.age, iv z.t.proc, iv z.t.began, .slice z.x.a0 z.t.calls.length z.x.c0, .slice z.x.a1 z.t.ans.length z.x.c1, .slice z.x.a2 z.t.rd.length z.x.c2, .slice z.x.a3 z.t.wr.length z.x.c3, .slice z.x.a4 z.t.marks.length z.x.c4, iv z.t.state], Res.rows (rdsX z), rI l_2a l_2c l_2]) rfl ?_
      exact jz ⟨l_223, l_223a, l_223c, z_245, A_246, b_239, b_218, f_224, e_225, e_247, ha_248, hb_249, he_11, rfl, rfl, rfl⟩
    refine jP rfl rfl (jh (z := .agg #[iv 0, iv 0, iv 0, iv 0, .slice none 0 0, .slice none 0 0, .slice none 0 0, .slice none 0 0, .slice none 0 0, iv 0]) (cs := [iv 0, iv 0, iv 0, iv 0, .slice none 0 0, .slice none 0 0, .slice none 0 0, .slice none 0 0, .slice none 0 0, iv 0]) gF rfl) ?_
    rintro _ _ ⟨b_250, rfl, rfl⟩
    refine ⟨(by simp), ?_⟩
    refine jK (i := 0) ?_
    refine jP rfl rfl (jI [] Tryz.call11 rfl (D_boot) rfl (fun _ _ => trivial)) ?_
    rintro _ _ ⟨_, ⟨l_254a, l_254c, l_254, e_256, f_255, rfl, rfl⟩, rfl⟩
    refine ⟨(by simp), ?_⟩
    refine jK (i := 3) ?_
    refine jP rfl rfl (jI [] Tryz.call10 rfl (Y_iTxAsk z (hI.lim (by omega)) l_254a l_254c l_254 3 f_255 (by omega) (hI.okT (by omega)) (fun h_ => grow3 (by omega)) (fun h_ => growT3 (by omega)) (⟨9, [], [], 0, 0, []⟩ : CL) ⟨by (try dsimp only); omega, by (try dsimp only); omega, by (try dsimp only); omega, (show List.length ([] : Str) ≤ 1048576 by decide), (show List.length ([] : Str) ≤ 1048576 by decide), (show List.length ([] : Str) ≤ 1048576 by decide)⟩) rfl (fun w hw => ⟨hw.see (i := 0) rfl, hw.seeRows 5 rfl, hw.hex hlow hpre.2⟩)) ?_
    rintro _ _ ⟨_, ⟨z_262, A_263, e_264, ha_265, hb_266, rfl, rfl⟩, rfl⟩
    refine ⟨(by simp), ?_⟩
    refine jJ 4 rfl (jC (v := .tuple #[.agg #[iv z_262.t.id, iv z_262.t.age, iv z_262.t.proc, iv z_262.t.began, .slice z_262.x.a0 z_262.t.calls.length z_262.x.c0, .slice z_262.x.a1 z_262.t.ans.length z_262.x.c1, .slice z_262.x.a2 z_262.t.rd.length z_262.x.c2, .slice z_262.x.a3 z_262.t.wr.length z_262.x.c3, .slice z_262.x.a4 z_262.t.marks.length z_262.x.c4, iv z_262.t.state], .agg #[iv A_263.code, iv A_263.n, str A_263.text]]) rfl) <| jJ 5 rfl (jS (v := .agg #[iv z_262.t.id, iv z_262.t.age, iv z_262.t.proc, iv z_262.t.began, .slice z_262.x.a0 z_262.t.calls.length z_262.x.c0, .slice z_262.x.a1 z_262.t.ans.length z_262.x.c1, .slice z_262.x.a2 z_262.t.rd.length z_262.x.c2, .slice z_262.x.a3 z_262.t.wr.length z_262.x.c3, .slice z_262.x.a4 z_262.t.marks.length z_262.x.c4, iv z_262.t.state]) rfl rfl) <| jJ 6 rfl (jS (v := .agg #[iv A_263.code, iv A_263.n, str A_263.text]) rfl rfl) <| jK (i := 9) ?_
    refine jp rfl (ja 2 (vs := [iv z_262.t.id, iv z_262.t.age, iv z_262.t.proc, iv z_262.t.began, .slice z_262.x.a0 z_262.t.calls.length z_262.x.c0, .slice z_262.x.a1 z_262.t.ans.length z_262.x.c1, .slice z_262.x.a2 z_262.t.rd.length z_262.x.c2, .slice z_262.x.a3 z_262.t.wr.length z_262.x.c3, .slice z_262.x.a4 z_262.t.marks.length z_262.x.c4, iv z_262.t.state]) (cs' := [iv z_262.t.id, iv z_262.t.age, iv z_262.t.proc, iv z_262.t.began, .slice z_262.x.a0 z_262.t.calls.length z_262.x.c0, .slice z_262.x.a1 z_262.t.ans.length z_262.x.c1, .slice z_262.x.a2 z_262.t.rd.length z_262.x.c2, .slice z_262.x.a3 z_262.t.wr.length z_262.x.c3, .slice z_262.x.a4 z_262.t.marks.length z_262.x.c4, iv z_262.t.state]) rfl rfl rfl rfl kq rfl rfl (lb rfl) rfl) ?_
    rintro _ _ rfl
    refine jK (i := 10) ?_
    refine jo rfl (ja 3 (vs := [iv A_263.code, iv A_263.n, str A_263.text]) (cs' := [iv A_263.code, iv A_263.n, str A_263.text]) rfl rfl rfl rfl kc rfl rfl (lb rfl) rfl) ?_
    rintro _ _ rfl
    refine jt [3, 2, 0, 0, 0, 0, 0, 0] (A := [bk b_218 37 [iv A_263.code, iv A_263.n, str A_263.text], bk b_250 32 [iv z_262.t.id, iv z_262.t.age, iv z_262.t.proc, iv z_262.t.began, .slice z_262.x.a0 z_262.t.calls.length z_262.x.c0, .slice z_262.x.a1 z_262.t.ans.length z_262.x.c1, .slice z_262.x.a2 z_262.t.rd.length z_262.x.c2, .slice z_262.x.a3 z_262.t.wr.length z_262.x.c3, .slice z_262.x.a4 z_262.t.marks.length z_262.x.c4, iv z_262.t.state], Res.rows (rdsX z_262), rC l_254a l_254c l_254, bk b_8 37 [iv A_.code, iv A_.n, str A_.text], bk b_7 32 [iv z.t.id, iv z.t.age, iv z.t.proc, iv z.t.began, .slice z.x.a0 z.t.calls.length z.x.c0, .slice z.x.a1 z.t.ans.length z.x.c1, .slice z.x.a2 z.t.rd.length z.x.c2, .slice z.x.a3 z.t.wr.length z.x.c3, .slice z.x.a4 z.t.marks.length z.x.c4, iv z.t.state], Res.rows (rdsX z), rI l_2a l_2c l_2]) rfl ?_
    exact jz ⟨l_254, l_254a, l_254c, z_262, A_263, b_250, b_218, f_255, e_256, e_264, ha_265, hb_266, he_11, rfl, rfl, rfl⟩
  rintro e_267 _ ⟨l_75, l_75a, l_75c, z_78, A_79, b_83, b_84, f_76, e_77, e_80, ha_81, hb_82, he_268, he_269, he_270, rfl⟩
  refine jB <| jD ?_
  have hff := askV_full (v := viewA l_75 z.t) (c := (⟨9, [], [], 0, 0, []⟩ : CL)) hI.s (by omega)
  rw [hff] at e_80
  simp only [Prod.mk.injEq] at e_80
  obtain ⟨hzz, hAA⟩ := e_80
  refine jF <| jA (jY fo37_0 he_270) <| jT (jf 0 (v := iv A_79.code) rfl rfl kl rfl) <| jA (jx rfl rfl) <| jA (jC (v := .bool (decide (A_79.code = 3))) rfl) ?_
  have h_271 : A_79.code = 3 := (by rw [← hAA])
  refine jX rfl rfl rfl (cB (dT h_271)) (jZ (je 1 (vs := [iv z_78.t.id, iv z_78.t.age, iv z_78.t.proc, iv z_78.t.began, .slice z_78.x.a0 z_78.t.calls.length z_78.x.c0, .slice z_78.x.a1 z_78.t.ans.length z_78.x.c1, .slice z_78.x.a2 z_78.t.rd.length z_78.x.c2, .slice z_78.x.a3 z_78.t.wr.length z_78.x.c3, .slice z_78.x.a4 z_78.t.marks.length z_78.x.c4, iv z_78.t.state]) rfl he_269 kw kq rfl rfl)) ?_
  rintro _ _ ⟨rfl, rfl⟩
  refine jX rfl rfl rfl (cB (dT h_271)) (jZ (je 5 (vs := [iv z.t.id, iv z.t.age, iv z.t.proc, iv z.t.began, .slice z.x.a0 z.t.calls.length z.x.c0, .slice z.x.a1 z.t.ans.length z.x.c1, .slice z.x.a2 z.t.rd.length z.x.c2, .slice z.x.a3 z.t.wr.length z.x.c3, .slice z.x.a4 z.t.marks.length z.x.c4, iv z.t.state]) rfl he_268 kw kq rfl rfl)) ?_
  rintro _ _ ⟨rfl, rfl⟩
  refine jX rfl rfl rfl (cB (dT h_271)) (jI [] Tryz.call16 rfl (Y_sameTx z_78 z (by rw [← hzz]; exact (hI.lim (by omega)).mono (show 500000000 ≤ 1000000000 by decide))) rfl (fun w hw => ⟨hw.seeRows 2 rfl, hw.seeRows 6 rfl⟩)) ?_
  rintro _ _ ⟨_, ⟨rfl, rfl⟩, rfl⟩
  refine jA (jw (v := .bool (decide (z_78.t = z.t))) (cB (dT h_271)) rfl) <| jA (jC (v := .bool (decide (z_78.t = z.t))) rfl) ?_
  have h_272 : z_78.t = z.t := hzz.symm
  refine jX rfl rfl rfl (cB (dT h_272)) (jZ (jd (jY fo32_4 he_268))) ?_
  rintro _ _ ⟨rfl, rfl⟩
  refine jX rfl rfl rfl (cB (dT h_272)) (jZ (jf 5 (v := .slice z.x.a0 z.t.calls.length z.x.c0) rfl rfl gP rfl)) ?_
  rintro _ _ ⟨rfl, rfl⟩
  refine jX rfl rfl rfl (cB (dT h_272)) (jZ (jd (jy gC rfl))) ?_
  rintro _ _ ⟨rfl, rfl⟩
  refine jX rfl rfl rfl (cB (dT h_272)) (jZ (jd (jx rfl rfl))) ?_
  rintro _ _ ⟨rfl, rfl⟩
  refine jA (jw (v := .bool (decide (((z.t.calls.length : Nat) : Int) = 12))) (cB (dT h_272)) rfl) <| jA (jG (v := .bool (decide (((z.t.calls.length : Nat) : Int) = 12))) rfl) <| jE <| jB <| jM ?_
  have h_273 : ((z.t.calls.length : Nat) : Int) = 12 := (by omega)
  refine jU (.inl rfl) rfl (jN (v := .bool true) (cB (dT h_273))) (List.nil_sublist _) ?_
  exact ⟨rfl, rfl⟩

end Go.Proofs.YtghfijncihbojaaGreatDoor
