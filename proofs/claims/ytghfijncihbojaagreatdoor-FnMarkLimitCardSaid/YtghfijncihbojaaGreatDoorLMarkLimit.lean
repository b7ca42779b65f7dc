/-
  laws.FnMarkLimit walked: it returns true.
-/
import Derived.Test.YtghfijncihbojaaGreatDoorDatRc
import Derived.Test.YtghfijncihbojaaGreatDoorDatL
import Derived.Test.YtghfijncihbojaaGreatDoorDatZ
set_option linter.unusedSimpArgs false
set_option linter.unusedVariables false
set_option linter.unnecessarySimpa false
namespace Go.Proofs.YtghfijncihbojaaGreatDoor
open Go Go.RowKit
attribute [local irreducible] JL JC JQ JO LO PO JA JX Ct

set_option maxRecDepth 8000 in
set_option maxHeartbeats 4000000 in
theorem L_MarkLimit (pa : Option Addr) (pc : Nat) (p : Str) :
    Ct Tryz.prog 3 [.slice pa p.length pc] [] (fun w => Sees w (.slice pa p.length pc) 1 p.length (p.map encB) ∧ HexOk w) (fun v A' => v = .bool true ∧ A' = []) := by
  refine Ct.introL Tryz.func3 rfl Tryz.ntmps3 (lb rfl) fun w0 hpre hlow => ?_
  have hs_pa : Sees w0 _ _ _ _ := hpre.1
  refine jD <| jF <| jA (jG (v := .bool false) rfl) <| jE <| jB <| jD <| jD <| jF <| jA (jC (v := .slice pa p.length pc) rfl) ?_
  refine jH rfl (jI [] Tryz.call6 rfl (N_big pa pc p) rfl (fun _ _ => trivial)) ?_
  rintro _ _ ⟨_, ⟨rfl, rfl⟩, rfl⟩
  refine jE <| jB ?_
  by_cases h_1 : 1048576 < ((p.length : Nat) : Int)
  · refine jQ (cB (dT h_1)) <| jD <| jF <| jA (jG (v := .bool true) rfl) <| jE <| jB <| jM <| jb <| jU (.inl rfl) rfl (jN (v := .bool true) rfl) (List.nil_sublist _) ?_
    exact ⟨rfl, rfl⟩
  refine jR (cB (dF h_1)) <| jW <| jB <| jD <| jF <| jA (jC (v := .slice pa p.length pc) rfl) ?_
  refine jH rfl (jI [] Tryz.call7 rfl (D_dPlaces pa pc p (by omega)) rfl (fun w hw => hw.seeOut_ hs_pa nM)) ?_
  rintro _ _ ⟨_, ⟨l_2a, l_2c, l_2, f_3, rfl, rfl⟩, rfl⟩
  refine jA (jG (v := .slice l_2a l_2.length l_2c) rfl) <| jE <| jB <| jD <| jF ?_
  refine jH rfl (jI [] Tryz.call8 rfl (Y_iTxNew 1 1 1) rfl (fun _ _ => trivial)) ?_
  rintro _ _ ⟨_, ⟨z_5, hz_6, rfl, rfl⟩, rfl⟩
  refine jH rfl (jh (z := .agg #[iv 0, iv 0, iv 0, iv 0, .slice none 0 0, .slice none 0 0, .slice none 0 0, .slice none 0 0, .slice none 0 0, iv 0]) (cs := [iv 0, iv 0, iv 0, iv 0, .slice none 0 0, .slice none 0 0, .slice none 0 0, .slice none 0 0, .slice none 0 0, iv 0]) gF rfl) ?_
  rintro _ _ ⟨b_7, rfl, rfl⟩
  refine jH rfl (ja 0 (vs := [iv z_5.t.id, iv z_5.t.age, iv z_5.t.proc, iv z_5.t.began, .slice z_5.x.a0 z_5.t.calls.length z_5.x.c0, .slice z_5.x.a1 z_5.t.ans.length z_5.x.c1, .slice z_5.x.a2 z_5.t.rd.length z_5.x.c2, .slice z_5.x.a3 z_5.t.wr.length z_5.x.c3, .slice z_5.x.a4 z_5.t.marks.length z_5.x.c4, iv z_5.t.state]) (cs' := [iv z_5.t.id, iv z_5.t.age, iv z_5.t.proc, iv z_5.t.began, .slice z_5.x.a0 z_5.t.calls.length z_5.x.c0, .slice z_5.x.a1 z_5.t.ans.length z_5.x.c1, .slice z_5.x.a2 z_5.t.rd.length z_5.x.c2, .slice z_5.x.a3 z_5.t.wr.length z_5.x.c3, .slice z_5.x.a4 z_5.t.marks.length z_5.x.c4, iv z_5.t.state]) rfl rfl rfl rfl kq rfl rfl (lb rfl) rfl) ?_
  rintro _ _ rfl
  refine jE <| jB <| jD <| jD <| jF <| jA (jG (v := iv 1) rfl) <| jE <| jB <| jl <| kE (fun k_ e_ L_ => ∃ i_ : Nat, ∃ z : TX, (i_ ≤ 4) ∧ (mkInv i_ z.t) ∧ e_ 3 = .slice l_2a l_2.length l_2c ∧ e_ 4 = .pointer (some ⟨b_7, 0, none⟩) ∧ e_ 5 = iv ((i_ + 1 : Nat) : Int) ∧ L_ = [bk b_7 32 [iv z.t.id, iv z.t.age, iv z.t.proc, iv z.t.began, .slice z.x.a0 z.t.calls.length z.x.c0, .slice z.x.a1 z.t.ans.length z.x.c1, .slice z.x.a2 z.t.rd.length z.x.c2, .slice z.x.a3 z.t.wr.length z.x.c3, .slice z.x.a4 z.t.marks.length z.x.c4, iv z.t.state], Res.rows (rdsX z), rI l_2a l_2c l_2] ∧ k_ = 4 - i_) _ ⟨0, z_5, by omega, (by rw [hz_6]; exact mkInv.new), rfl, rfl, rfl, rfl, rfl⟩ ?_
  rintro _ e_8 _ ⟨i_, z, hi, hI, he_9, he_10, he_11, rfl, rfl⟩
  have hIn := hI.n
  refine jD <| jD <| jF <| jA (jC (v := iv ((i_ + 1 : Nat) : Int)) he_11) <| jA (PO.leq rfl rfl) <| jE <| jB ?_
  by_cases h_12 : ((i_ + 1 : Nat) : Int) ≤ 4
  · refine jQ (cB (dT h_12)) <| jW <| jB <| jD <| jl <| jD <| jF <| jA (jG (v := iv 0) rfl) <| jE <| jB ?_
    refine jD <| jF <| jT (je 0 (vs := [iv z.t.id, iv z.t.age, iv z.t.proc, iv z.t.began, .slice z.x.a0 z.t.calls.length z.x.c0, .slice z.x.a1 z.t.ans.length z.x.c1, .slice z.x.a2 z.t.rd.length z.x.c2, .slice z.x.a3 z.t.wr.length z.x.c3, .slice z.x.a4 z.t.marks.length z.x.c4, iv z.t.state]) rfl he_10 kw kq rfl rfl) ?_
    refine jH rfl (jI [] Tryz.call9 rfl (Y_implTxMark z ((hI.lim (by omega)).mono (show 500000000 ≤ 1000000000 by decide)) ) rfl (fun w hw => hw.seeRows 1 rfl)) ?_
    rintro _ _ ⟨_, ⟨z_13, hz_14, rfl, rfl⟩, rfl⟩
    refine jA (jC (v := .tuple #[.agg #[iv z_13.t.id, iv z_13.t.age, iv z_13.t.proc, iv z_13.t.began, .slice z_13.x.a0 z_13.t.calls.length z_13.x.c0, .slice z_13.x.a1 z_13.t.ans.length z_13.x.c1, .slice z_13.x.a2 z_13.t.rd.length z_13.x.c2, .slice z_13.x.a3 z_13.t.wr.length z_13.x.c3, .slice z_13.x.a4 z_13.t.marks.length z_13.x.c4, iv z_13.t.state], iv z.t.mark.2]) rfl) <| jA (jS (v := .agg #[iv z_13.t.id, iv z_13.t.age, iv z_13.t.proc, iv z_13.t.began, .slice z_13.x.a0 z_13.t.calls.length z_13.x.c0, .slice z_13.x.a1 z_13.t.ans.length z_13.x.c1, .slice z_13.x.a2 z_13.t.rd.length z_13.x.c2, .slice z_13.x.a3 z_13.t.wr.length z_13.x.c3, .slice z_13.x.a4 z_13.t.marks.length z_13.x.c4, iv z_13.t.state]) rfl rfl) <| jA (jS (v := iv z.t.mark.2) rfl rfl) ?_
    refine jH rfl (ja 1 (vs := [iv z_13.t.id, iv z_13.t.age, iv z_13.t.proc, iv z_13.t.began, .slice z_13.x.a0 z_13.t.calls.length z_13.x.c0, .slice z_13.x.a1 z_13.t.ans.length z_13.x.c1, .slice z_13.x.a2 z_13.t.rd.length z_13.x.c2, .slice z_13.x.a3 z_13.t.wr.length z_13.x.c3, .slice z_13.x.a4 z_13.t.marks.length z_13.x.c4, iv z_13.t.state]) (cs' := [iv z_13.t.id, iv z_13.t.age, iv z_13.t.proc, iv z_13.t.began, .slice z_13.x.a0 z_13.t.calls.length z_13.x.c0, .slice z_13.x.a1 z_13.t.ans.length z_13.x.c1, .slice z_13.x.a2 z_13.t.rd.length z_13.x.c2, .slice z_13.x.a3 z_13.t.wr.length z_13.x.c3, .slice z_13.x.a4 z_13.t.marks.length z_13.x.c4, iv z_13.t.state]) rfl he_10 rfl rfl kq rfl rfl (lb rfl) rfl) ?_
    rintro _ _ rfl
    refine jA (jG (v := iv z.t.mark.2) rfl) <| jE <| jB <| jD <| jD ?_
    have hmk := mark_eq hI (by omega)
    obtain ⟨hml, hmt, hmn⟩ := mkInv.marked hI (by omega) hz_14
    refine jF <| jA (jC (v := iv z.t.mark.2) rfl) <| jA (jC (v := iv ((i_ + 1 : Nat) : Int)) he_11) <| jA (kO rfl rfl) <| jE <| jB ?_
    have h_15 : z.t.mark.2 = ((i_ + 1 : Nat) : Int) := (by rw [hmk] <;> rfl)
    refine jR (cB (cN (dT h_15))) <| jW <| jB <| jq [bk b_7 32 [iv z_13.t.id, iv z_13.t.age, iv z_13.t.proc, iv z_13.t.began, .slice z_13.x.a0 z_13.t.calls.length z_13.x.c0, .slice z_13.x.a1 z_13.t.ans.length z_13.x.c1, .slice z_13.x.a2 z_13.t.rd.length z_13.x.c2, .slice z_13.x.a3 z_13.t.wr.length z_13.x.c3, .slice z_13.x.a4 z_13.t.marks.length z_13.x.c4, iv z_13.t.state]] 7 mixed (by simp) <| jj 1 rfl (je 0 (vs := [iv z_13.t.id, iv z_13.t.age, iv z_13.t.proc, iv z_13.t.began, .slice z_13.x.a0 z_13.t.calls.length z_13.x.c0, .slice z_13.x.a1 z_13.t.ans.length z_13.x.c1, .slice z_13.x.a2 z_13.t.rd.length z_13.x.c2, .slice z_13.x.a3 z_13.t.wr.length z_13.x.c3, .slice z_13.x.a4 z_13.t.marks.length z_13.x.c4, iv z_13.t.state]) rfl he_10 kw kq rfl rfl) <| jK (i := 0) ?_
    refine jP rfl rfl (jI [] Tryz.call11 rfl (D_boot) rfl (fun _ _ => trivial)) ?_
    rintro _ _ ⟨_, ⟨l_22a, l_22c, l_22, e_24, f_23, rfl, rfl⟩, rfl⟩
    refine ⟨(by simp), ?_⟩
    refine jK (i := 2) ?_
    refine jP rfl rfl (jI [] Tryz.call12 rfl (Y_named 5 []) rfl (fun _ _ => trivial)) ?_
    rintro _ _ ⟨_, ⟨rfl, rfl⟩, rfl⟩
    refine ⟨(by simp), ?_⟩
    refine jK (i := 3) ?_
    refine jP rfl rfl (jI [] Tryz.call10 rfl (Y_iTxAsk z_13 hml l_22a l_22c l_22 3 f_23 (by omega) hmt (fun h_ => grow3 (by omega)) (fun h_ => growT3 (by omega)) (⟨5, [], [], 0, 0, []⟩ : CL) ⟨by (try dsimp only); omega, by (try dsimp only); omega, by (try dsimp only); omega, (show List.length ([] : Str) ≤ 1048576 by decide), (show List.length ([] : Str) ≤ 1048576 by decide), (show List.length ([] : Str) ≤ 1048576 by decide)⟩) rfl (fun w hw => ⟨hw.see (i := 0) rfl, hw.seeRows 1 rfl, hw.hex hlow hpre.2⟩)) ?_
    rintro _ _ ⟨_, ⟨z_30, A_31, e_32, ha_33, hb_34, rfl, rfl⟩, rfl⟩
    refine ⟨(by simp), ?_⟩
    refine jJ 4 rfl (jC (v := .tuple #[.agg #[iv z_30.t.id, iv z_30.t.age, iv z_30.t.proc, iv z_30.t.began, .slice z_30.x.a0 z_30.t.calls.length z_30.x.c0, .slice z_30.x.a1 z_30.t.ans.length z_30.x.c1, .slice z_30.x.a2 z_30.t.rd.length z_30.x.c2, .slice z_30.x.a3 z_30.t.wr.length z_30.x.c3, .slice z_30.x.a4 z_30.t.marks.length z_30.x.c4, iv z_30.t.state], .agg #[iv A_31.code, iv A_31.n, str A_31.text]]) rfl) <| jJ 5 rfl (jS (v := .agg #[iv z_30.t.id, iv z_30.t.age, iv z_30.t.proc, iv z_30.t.began, .slice z_30.x.a0 z_30.t.calls.length z_30.x.c0, .slice z_30.x.a1 z_30.t.ans.length z_30.x.c1, .slice z_30.x.a2 z_30.t.rd.length z_30.x.c2, .slice z_30.x.a3 z_30.t.wr.length z_30.x.c3, .slice z_30.x.a4 z_30.t.marks.length z_30.x.c4, iv z_30.t.state]) rfl rfl) <| jJ 6 rfl (jS (v := .agg #[iv A_31.code, iv A_31.n, str A_31.text]) rfl rfl) <| jK (i := 7) ?_
    refine jo rfl (ja 3 (vs := [iv z_30.t.id, iv z_30.t.age, iv z_30.t.proc, iv z_30.t.began, .slice z_30.x.a0 z_30.t.calls.length z_30.x.c0, .slice z_30.x.a1 z_30.t.ans.length z_30.x.c1, .slice z_30.x.a2 z_30.t.rd.length z_30.x.c2, .slice z_30.x.a3 z_30.t.wr.length z_30.x.c3, .slice z_30.x.a4 z_30.t.marks.length z_30.x.c4, iv z_30.t.state]) (cs' := [iv z_30.t.id, iv z_30.t.age, iv z_30.t.proc, iv z_30.t.began, .slice z_30.x.a0 z_30.t.calls.length z_30.x.c0, .slice z_30.x.a1 z_30.t.ans.length z_30.x.c1, .slice z_30.x.a2 z_30.t.rd.length z_30.x.c2, .slice z_30.x.a3 z_30.t.wr.length z_30.x.c3, .slice z_30.x.a4 z_30.t.marks.length z_30.x.c4, iv z_30.t.state]) rfl he_10 rfl rfl kq rfl rfl (lb rfl) rfl) ?_
    rintro _ _ rfl
    refine jk <| jB ?_
    have hst1 := mkInv.step hI (by omega) hz_14 ⟨by dsimp only; omega, by dsimp only; omega, by dsimp only; omega, by simp, by simp, by simp⟩ e_32 hb_34
    refine jF <| jA (jC (v := iv ((i_ + 1 : Nat) : Int)) he_11) <| jA (ji (c := (((i_ + 1) + 1 : Nat) : Int)) rfl rfl (wr (by omega))) <| jA (jG (v := iv (((i_ + 1) + 1 : Nat) : Int)) rfl) <| jE <| jt [3, 0, 3] (A := [bk b_7 32 [iv z_30.t.id, iv z_30.t.age, iv z_30.t.proc, iv z_30.t.began, .slice z_30.x.a0 z_30.t.calls.length z_30.x.c0, .slice z_30.x.a1 z_30.t.ans.length z_30.x.c1, .slice z_30.x.a2 z_30.t.rd.length z_30.x.c2, .slice z_30.x.a3 z_30.t.wr.length z_30.x.c3, .slice z_30.x.a4 z_30.t.marks.length z_30.x.c4, iv z_30.t.state], Res.rows (rdsX z_30), rI l_2a l_2c l_2]) rfl ?_
    refine ju (4 - (i_ + 1)) (by omega) ⟨i_ + 1, z_30, by omega, hst1, he_9, he_10, rfl, rfl, rfl⟩
  refine jR (cB (dF h_12)) <| kB <| jm <| jm <| kC <| jB <| jD ?_
  obtain rfl : i_ = 4 := by omega
  refine jF <| jT (je 0 (vs := [iv z.t.id, iv z.t.age, iv z.t.proc, iv z.t.began, .slice z.x.a0 z.t.calls.length z.x.c0, .slice z.x.a1 z.t.ans.length z.x.c1, .slice z.x.a2 z.t.rd.length z.x.c2, .slice z.x.a3 z.t.wr.length z.x.c3, .slice z.x.a4 z.t.marks.length z.x.c4, iv z.t.state]) rfl he_10 kw kq rfl rfl) ?_
  refine jH rfl (jI [] Tryz.call9 rfl (Y_implTxMark z ((hI.lim (by omega)).mono (show 500000000 ≤ 1000000000 by decide)) ) rfl (fun w hw => hw.seeRows 1 rfl)) ?_
  rintro _ _ ⟨_, ⟨z_35, hz_36, rfl, rfl⟩, rfl⟩
  refine jA (jC (v := .tuple #[.agg #[iv z_35.t.id, iv z_35.t.age, iv z_35.t.proc, iv z_35.t.began, .slice z_35.x.a0 z_35.t.calls.length z_35.x.c0, .slice z_35.x.a1 z_35.t.ans.length z_35.x.c1, .slice z_35.x.a2 z_35.t.rd.length z_35.x.c2, .slice z_35.x.a3 z_35.t.wr.length z_35.x.c3, .slice z_35.x.a4 z_35.t.marks.length z_35.x.c4, iv z_35.t.state], iv z.t.mark.2]) rfl) <| jA (jS (v := .agg #[iv z_35.t.id, iv z_35.t.age, iv z_35.t.proc, iv z_35.t.began, .slice z_35.x.a0 z_35.t.calls.length z_35.x.c0, .slice z_35.x.a1 z_35.t.ans.length z_35.x.c1, .slice z_35.x.a2 z_35.t.rd.length z_35.x.c2, .slice z_35.x.a3 z_35.t.wr.length z_35.x.c3, .slice z_35.x.a4 z_35.t.marks.length z_35.x.c4, iv z_35.t.state]) rfl rfl) <| jA (jS (v := iv z.t.mark.2) rfl rfl) ?_
  refine jH rfl (jh (z := .agg #[iv 0, iv 0, iv 0, iv 0, .slice none 0 0, .slice none 0 0, .slice none 0 0, .slice none 0 0, .slice none 0 0, iv 0]) (cs := [iv 0, iv 0, iv 0, iv 0, .slice none 0 0, .slice none 0 0, .slice none 0 0, .slice none 0 0, .slice none 0 0, iv 0]) gF rfl) ?_
  rintro _ _ ⟨b_37, rfl, rfl⟩
  refine jH rfl (ja 0 (vs := [iv z_35.t.id, iv z_35.t.age, iv z_35.t.proc, iv z_35.t.began, .slice z_35.x.a0 z_35.t.calls.length z_35.x.c0, .slice z_35.x.a1 z_35.t.ans.length z_35.x.c1, .slice z_35.x.a2 z_35.t.rd.length z_35.x.c2, .slice z_35.x.a3 z_35.t.wr.length z_35.x.c3, .slice z_35.x.a4 z_35.t.marks.length z_35.x.c4, iv z_35.t.state]) (cs' := [iv z_35.t.id, iv z_35.t.age, iv z_35.t.proc, iv z_35.t.began, .slice z_35.x.a0 z_35.t.calls.length z_35.x.c0, .slice z_35.x.a1 z_35.t.ans.length z_35.x.c1, .slice z_35.x.a2 z_35.t.rd.length z_35.x.c2, .slice z_35.x.a3 z_35.t.wr.length z_35.x.c3, .slice z_35.x.a4 z_35.t.marks.length z_35.x.c4, iv z_35.t.state]) rfl rfl rfl rfl kq rfl rfl (lb rfl) rfl) ?_
  rintro _ _ rfl
  refine jA (jG (v := iv z.t.mark.2) rfl) <| jE <| jB <| jD <| jF <| jA (jC (v := .slice l_2a l_2.length l_2c) he_9) ?_
  refine kW fun hst => ?_
  obtain ⟨hr_38, hr_38b, -⟩ := row_some 4 rfl (by omega) hst
  refine jA (kD (i := 0) kv ko hr_38 hr_38b rfl rfl (by omega)) <| jT (kX 4 (v := iv (l_2.getD 0 0)) rfl rfl kl (atI (by omega))) ?_
  obtain ⟨kk_39, hkk_40⟩ : ∃ kk_39 : Nat, l_2.getD 0 0 = ((kk_39 : Nat) : Int) := ⟨(l_2.getD 0 0).toNat, by have hlo_ := f_3.2 _ (getD_mem (d := 0) (show 0 < l_2.length by have hq_ := f_3.1; omega)); omega⟩
  refine jA (PO.remN (c := ((kk_39 % 4 : Nat) : Int)) (congrArg (Value.int .i64) hkk_40) rfl (by omega) (by omega) (by omega)) <| jA (ji (c := ((1 + (kk_39 % 4) : Nat) : Int)) rfl rfl (wr (by omega))) <| jA (jG (v := iv ((1 + (kk_39 % 4) : Nat) : Int)) rfl) <| jE <| jB <| jD <| jF <| jT (je 2 (vs := [iv z.t.id, iv z.t.age, iv z.t.proc, iv z.t.began, .slice z.x.a0 z.t.calls.length z.x.c0, .slice z.x.a1 z.t.ans.length z.x.c1, .slice z.x.a2 z.t.rd.length z.x.c2, .slice z.x.a3 z.t.wr.length z.x.c3, .slice z.x.a4 z.t.marks.length z.x.c4, iv z.t.state]) rfl he_10 kw kq rfl rfl) <| jA (jC (v := iv ((1 + (kk_39 % 4) : Nat) : Int)) rfl) ?_
  refine jH rfl (jI [] Tryz.call13 rfl (Y_implTxBack z ((hI.lim (by omega)).mono (show 500000000 ≤ 1000000000 by decide)) ((1 + (kk_39 % 4) : Nat) : Int) (by omega)) rfl (fun w hw => hw.seeRows 3 rfl)) ?_
  rintro _ _ ⟨_, ⟨z_41, hz_42, rfl, rfl⟩, rfl⟩
  refine jA (jC (v := .tuple #[.agg #[iv z_41.t.id, iv z_41.t.age, iv z_41.t.proc, iv z_41.t.began, .slice z_41.x.a0 z_41.t.calls.length z_41.x.c0, .slice z_41.x.a1 z_41.t.ans.length z_41.x.c1, .slice z_41.x.a2 z_41.t.rd.length z_41.x.c2, .slice z_41.x.a3 z_41.t.wr.length z_41.x.c3, .slice z_41.x.a4 z_41.t.marks.length z_41.x.c4, iv z_41.t.state], .bool ((z.t.back ((1 + (kk_39 % 4) : Nat) : Int)).2)]) rfl) <| jA (jS (v := .agg #[iv z_41.t.id, iv z_41.t.age, iv z_41.t.proc, iv z_41.t.began, .slice z_41.x.a0 z_41.t.calls.length z_41.x.c0, .slice z_41.x.a1 z_41.t.ans.length z_41.x.c1, .slice z_41.x.a2 z_41.t.rd.length z_41.x.c2, .slice z_41.x.a3 z_41.t.wr.length z_41.x.c3, .slice z_41.x.a4 z_41.t.marks.length z_41.x.c4, iv z_41.t.state]) rfl rfl) <| jA (jS (v := .bool ((z.t.back ((1 + (kk_39 % 4) : Nat) : Int)).2)) rfl rfl) ?_
  refine jH rfl (jh (z := .agg #[iv 0, iv 0, iv 0, iv 0, .slice none 0 0, .slice none 0 0, .slice none 0 0, .slice none 0 0, .slice none 0 0, iv 0]) (cs := [iv 0, iv 0, iv 0, iv 0, .slice none 0 0, .slice none 0 0, .slice none 0 0, .slice none 0 0, .slice none 0 0, iv 0]) gF rfl) ?_
  rintro _ _ ⟨b_43, rfl, rfl⟩
  refine jH rfl (ja 0 (vs := [iv z_41.t.id, iv z_41.t.age, iv z_41.t.proc, iv z_41.t.began, .slice z_41.x.a0 z_41.t.calls.length z_41.x.c0, .slice z_41.x.a1 z_41.t.ans.length z_41.x.c1, .slice z_41.x.a2 z_41.t.rd.length z_41.x.c2, .slice z_41.x.a3 z_41.t.wr.length z_41.x.c3, .slice z_41.x.a4 z_41.t.marks.length z_41.x.c4, iv z_41.t.state]) (cs' := [iv z_41.t.id, iv z_41.t.age, iv z_41.t.proc, iv z_41.t.began, .slice z_41.x.a0 z_41.t.calls.length z_41.x.c0, .slice z_41.x.a1 z_41.t.ans.length z_41.x.c1, .slice z_41.x.a2 z_41.t.rd.length z_41.x.c2, .slice z_41.x.a3 z_41.t.wr.length z_41.x.c3, .slice z_41.x.a4 z_41.t.marks.length z_41.x.c4, iv z_41.t.state]) rfl rfl rfl rfl kq rfl rfl (lb rfl) rfl) ?_
  rintro _ _ rfl
  refine jA (jG (v := .bool ((z.t.back ((1 + (kk_39 % 4) : Nat) : Int)).2)) rfl) <| jE <| jB <| jD ?_
  have hmf := mark_full hI
  obtain ⟨hbk1, hbk2, hbk3, hbk4⟩ := back_inv hI (k := 1 + (kk_39 % 4)) (by omega) (by omega)
  rw [← hz_42] at hbk2 hbk3
  refine jF <| jA (jC (v := iv z.t.mark.2) rfl) <| jA (jx rfl rfl) <| jA (jC (v := .bool (decide (z.t.mark.2 = 0))) rfl) ?_
  have h_44 : z.t.mark.2 = 0 := (by rw [hmf])
  refine jX rfl rfl rfl (cB (dT h_44)) (jZ (jd (jC (v := .bool ((z.t.back ((1 + (kk_39 % 4) : Nat) : Int)).2)) rfl))) ?_
  rintro _ _ ⟨rfl, rfl⟩
  refine jA (jw (v := .bool ((z.t.back ((1 + (kk_39 % 4) : Nat) : Int)).2)) (cB (dT h_44)) rfl) <| jA (jC (v := .bool ((z.t.back ((1 + (kk_39 % 4) : Nat) : Int)).2)) rfl) <| jX rfl rfl rfl (cB hbk1) (jZ (jd (jY fo32_4 rfl))) ?_
  rintro _ _ ⟨rfl, rfl⟩
  refine jX rfl rfl rfl (cB hbk1) (jZ (jf 0 (v := .slice z_41.x.a0 z_41.t.calls.length z_41.x.c0) rfl rfl gP rfl)) ?_
  rintro _ _ ⟨rfl, rfl⟩
  refine jX rfl rfl rfl (cB hbk1) (jZ (jd (jy gC rfl))) ?_
  rintro _ _ ⟨rfl, rfl⟩
  refine jX rfl rfl rfl (cB hbk1) (jZ (jd (jC (v := iv ((1 + (kk_39 % 4) : Nat) : Int)) rfl))) ?_
  rintro _ _ ⟨rfl, rfl⟩
  refine jX rfl rfl rfl (cB hbk1) (jZ (jd (kQ (c := ((1 + (kk_39 % 4) : Nat) : Int) - 1) rfl rfl (wr (by omega))))) ?_
  rintro _ _ ⟨rfl, rfl⟩
  refine jX rfl rfl rfl (cB hbk1) (jZ (jd (jx rfl rfl))) ?_
  rintro _ _ ⟨rfl, rfl⟩
  refine jA (jw (v := .bool (decide (((z_41.t.calls.length : Nat) : Int) = (((1 + (kk_39 % 4) : Nat) : Int) - 1)))) (cB hbk1) rfl) <| jA (jC (v := .bool (decide (((z_41.t.calls.length : Nat) : Int) = (((1 + (kk_39 % 4) : Nat) : Int) - 1)))) rfl) ?_
  have h_45 : ((z_41.t.calls.length : Nat) : Int) = (((1 + (kk_39 % 4) : Nat) : Int) - 1) := (by omega)
  refine jX rfl rfl rfl (cB (dT h_45)) (jZ (je 0 (vs := [iv z_41.t.id, iv z_41.t.age, iv z_41.t.proc, iv z_41.t.began, .slice z_41.x.a0 z_41.t.calls.length z_41.x.c0, .slice z_41.x.a1 z_41.t.ans.length z_41.x.c1, .slice z_41.x.a2 z_41.t.rd.length z_41.x.c2, .slice z_41.x.a3 z_41.t.wr.length z_41.x.c3, .slice z_41.x.a4 z_41.t.marks.length z_41.x.c4, iv z_41.t.state]) rfl rfl kw kq rfl rfl)) ?_
  rintro _ _ ⟨rfl, rfl⟩
  refine jX rfl rfl rfl (cB (dT h_45)) (jI [] Tryz.call14 rfl (Y_marked z_41 (show z_41.t.lim 1000000000 by rw [hz_42]; exact TD.back_lim ((hI.lim (by omega)).mono (show 500000000 ≤ 1000000000 by decide))).l4) rfl (fun _ _ => trivial)) ?_
  rintro _ _ ⟨_, ⟨rfl, rfl⟩, rfl⟩
  refine jX rfl rfl rfl (cB (dT h_45)) (jZ (jd (jC (v := iv ((1 + (kk_39 % 4) : Nat) : Int)) rfl))) ?_
  rintro _ _ ⟨rfl, rfl⟩
  refine jX rfl rfl rfl (cB (dT h_45)) (jZ (jd (kQ (c := ((1 + (kk_39 % 4) : Nat) : Int) - 1) rfl rfl (wr (by omega))))) ?_
  rintro _ _ ⟨rfl, rfl⟩
  refine jX rfl rfl rfl (cB (dT h_45)) (jZ (jd (jx rfl rfl))) ?_
  rintro _ _ ⟨rfl, rfl⟩
  refine jA (jw (v := .bool (decide (((z_41.t.marks.length : Nat) : Int) = (((1 + (kk_39 % 4) : Nat) : Int) - 1)))) (cB (dT h_45)) rfl) <| jA (jC (v := .bool (decide (((z_41.t.marks.length : Nat) : Int) = (((1 + (kk_39 % 4) : Nat) : Int) - 1)))) rfl) ?_
  have h_46 : ((z_41.t.marks.length : Nat) : Int) = (((1 + (kk_39 % 4) : Nat) : Int) - 1) := (by omega)
  refine jX rfl rfl rfl (cB (dT h_46)) (jZ (je 4 (vs := [iv z.t.id, iv z.t.age, iv z.t.proc, iv z.t.began, .slice z.x.a0 z.t.calls.length z.x.c0, .slice z.x.a1 z.t.ans.length z.x.c1, .slice z.x.a2 z.t.rd.length z.x.c2, .slice z.x.a3 z.t.wr.length z.x.c3, .slice z.x.a4 z.t.marks.length z.x.c4, iv z.t.state]) rfl he_10 kw kq rfl rfl)) ?_
  rintro _ _ ⟨rfl, rfl⟩
  refine jX rfl rfl rfl (cB (dT h_46)) (jZ (jd (jC (v := iv ((1 + (kk_39 % 4) : Nat) : Int)) rfl))) ?_
  rintro _ _ ⟨rfl, rfl⟩
  refine jX rfl rfl rfl (cB (dT h_46)) (jI [] Tryz.call15 rfl (Y_iSince z ((hI.lim (by omega)).mono (show 500000000 ≤ 1000000000 by decide)) ((1 + (kk_39 % 4) : Nat) : Int) (by omega)) rfl (fun w hw => hw.seeRows 5 rfl)) ?_
  rintro _ _ ⟨_, ⟨a_47, c_48, rfl, rfl⟩, rfl⟩
  have hl_49 : (z.t.since ((1 + (kk_39 % 4) : Nat) : Int)).length ≤ 1000000000 := since_le ((hI.lim (by omega)).mono (show 500000000 ≤ 1000000000 by decide))
  refine jX rfl rfl rfl (cB (dT h_46)) (jZ (jd (jy gC rfl))) ?_
  rintro _ _ ⟨rfl, rfl⟩
  refine jX rfl rfl rfl (cB (dT h_46)) (jZ (jd (jC (v := iv ((1 + (kk_39 % 4) : Nat) : Int)) rfl))) ?_
  rintro _ _ ⟨rfl, rfl⟩
  refine jX rfl rfl rfl (cB (dT h_46)) (jZ (jd (kQ (c := 5 - ((1 + (kk_39 % 4) : Nat) : Int)) rfl rfl (wr (by omega))))) ?_
  rintro _ _ ⟨rfl, rfl⟩
  refine jX rfl rfl rfl (cB (dT h_46)) (jZ (jd (jx rfl rfl))) ?_
  rintro _ _ ⟨rfl, rfl⟩
  refine jA (jw (v := .bool (decide ((((z.t.since ((1 + (kk_39 % 4) : Nat) : Int)).length : Nat) : Int) = (5 - ((1 + (kk_39 % 4) : Nat) : Int))))) (cB (dT h_46)) rfl) <| jA (jG (v := .bool (decide ((((z.t.since ((1 + (kk_39 % 4) : Nat) : Int)).length : Nat) : Int) = (5 - ((1 + (kk_39 % 4) : Nat) : Int))))) rfl) <| jE <| jB <| jM ?_
  have h_50 : (((z.t.since ((1 + (kk_39 % 4) : Nat) : Int)).length : Nat) : Int) = (5 - ((1 + (kk_39 % 4) : Nat) : Int)) := (by omega)
  refine jU (.inl rfl) rfl (jN (v := .bool true) (cB (dT h_50))) (List.nil_sublist _) ?_
  exact ⟨rfl, rfl⟩

end Go.Proofs.YtghfijncihbojaaGreatDoor
