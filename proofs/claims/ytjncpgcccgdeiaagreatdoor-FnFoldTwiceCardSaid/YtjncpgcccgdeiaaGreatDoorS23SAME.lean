/-
  Texts of the walk, joined: what each one proves stands at its theorems.
-/
import Derived.Test.YtjncpgcccgdeiaaGreatDoorS56FOLD
import Derived.Test.YtjncpgcccgdeiaaGreatDoorSlStr
import Derived.Test.YtjncpgcccgdeiaaGreatDoorOpenZ
import Derived.Laws.StructEq
set_option linter.unusedSimpArgs false
set_option linter.unusedVariables false
set_option linter.unnecessarySimpa false
namespace Go.Proofs.YtjncpgcccgdeiaaGreatDoor
open Go Go.RowKit
attribute [local irreducible] JL JC JQ JO LO PO JA JX Ct

set_option maxRecDepth 4000 in
set_option maxHeartbeats 1000000 in
theorem Y_sApply (a b : Option Addr) (c c' : Nat) (s l : List Cell) (hs : s.length ≤ 1000000000) (hl : l.length ≤ 1000000000) (hk : ∀ j, j < l.length → (l.getD j c0).1.length ≤ 20000) :
    Ct Tryz.prog 96 [.slice a s.length c, .slice b l.length c'] [] (fun w => Sees w (.slice a s.length c) 2 s.length (s.flatMap encC) ∧ Sees w (.slice b l.length c') 2 l.length (l.flatMap encC)) (fun v A' => ∃ x y, v = .slice x (applyR s l).length y ∧ A' = [.row (.slice x (applyR s l).length y) 48 2 (applyR s l).length ((applyR s l).flatMap encC)]) := by
  refine Ct.intro Tryz.func96 rfl Tryz.ntmps96 (lb rfl) fun w0 hpre => ?_
  have hs_a : Sees w0 _ _ _ _ := hpre.1
  have hs_b : Sees w0 _ _ _ _ := hpre.2
  refine jC <| jF <| jA (jG (v := .slice none 0 0) rfl) <| jE <| jB <| jC <| jF ?_
  refine jH rfl (kH (ps := []) (cur := #[]) kf kh kw rfl (by kernel_rfl) (by decide) (by decide)) ?_
  rintro _ _ ⟨a_1, rfl, rfl⟩
  refine jA (jD (v := .slice a s.length c) rfl) ?_
  refine jH rfl (kU 0 (q := s.length) (news := s.flatMap encC) (n' := s.length) (cs' := s.flatMap encC) rfl kf kf ky rfl (by' := 32) rfl rfl rfl rfl rfl (fun w hw => Src.sees (hw.seeOut_ hs_a nM) (oneC _)) (by (try simp only [LE]); omega) (by (try simp only [LE]); omega) (by (try simp only [List.length_take, List.length_drop]); first | rfl | omega) rfl) ?_
  rintro _ _ ⟨a_2, c_3, rfl, rfl⟩
  refine jA (jG (v := .slice a_2 s.length c_3) rfl) <| jE <| jB <| jC <| jC <| jF <| jA (jG (v := iv 0) rfl) <| jE <| jB <| jf ?_
  refine kD (fun k_ e_ L_ => ∃ j : Nat, ∃ qa : Option Addr, ∃ qc : Nat, ∃ q : List Cell, (j ≤ l.length) ∧ (q.length ≤ s.length + j) ∧ (applyR q (l.drop j) = applyR s l) ∧ e_ 0 = .slice qa q.length qc ∧ e_ 1 = .slice b l.length c' ∧ e_ 4 = .slice none 0 0 ∧ e_ 5 = nv j ∧ L_ = [rC qa qc q] ∧ k_ = l.length - j) _ ⟨0, a_2, c_3, s, by omega, by omega, rfl, rfl, rfl, rfl, rfl, rfl, rfl⟩ ?_
  rintro _ e_4 _ ⟨j, qa, qc, q, hj, hb, hR, he_5, he_6, he_7, he_8, rfl, rfl⟩
  refine jC <| jC <| jF <| jA (jD (v := nv j) he_8) <| jA (jD (v := .slice b l.length c') he_6) <| jA (jr kf rfl) <| jA (jl rfl rfl) <| jE <| jB ?_
  by_cases h_9 : ((j : Nat) : Int) < ((l.length : Nat) : Int)
  · have hlt : j < l.length := by omega
    have hkl := hk j hlt
    have hpl := putKey_one q (l.getD j c0).1 (l.getD j c0).2
    refine jW (cB (dT h_9)) <| jT <| jB <| jC <| jf <| kJ [rC qa qc q] 11 mixed (by simp) <| jL 0 rfl (jD (v := .slice qa q.length qc) he_5) <| jL 1 rfl (jD (v := .slice b l.length c') he_6) <| jL 2 rfl (jD (v := nv j) he_8) ?_
    obtain ⟨hr_10, hr_10b, -⟩ := sees_some hs_b (by omega)
    refine jL 3 rfl (jk (i := j) kf kh hr_10 hr_10b rfl rfl (by omega)) <| jL 4 rfl (kL fo48_0 hr_10 rfl) <| jw 5 rfl (kY (v := str ((l.getD j c0).1)) hs_b nM rfl ki (atC1 (by omega))) <| jL 6 rfl (jD (v := .slice b l.length c') he_6) <| jL 7 rfl (jD (v := nv j) he_8) <| jL 8 rfl (jk (i := j) kf kh hr_10 hr_10b rfl rfl (by omega)) <| jL 9 rfl (kL fo48_1 hr_10 rfl) <| jw 10 rfl (kY (v := str ((l.getD j c0).2)) hs_b nM rfl ki (atC2 (by omega))) <| jj (i := 11) ?_
    refine JX.lt rfl (jI [] Tryz.call134 rfl (C_sPutKey qa qc q ((l.getD j c0).1) ((l.getD j c0).2) (by omega) (by omega)) rfl (fun w hw => hw.see (i := 0) rfl)) ?_
    rintro _ _ ⟨_, ⟨a_13, c_14, rfl, rfl⟩, rfl⟩
    refine jL 12 rfl (jG (v := .slice a_13 ((putKey q ((l.getD j c0).1) ((l.getD j c0).2)).length) c_14) rfl) <| kI (by kernel_rfl) <| jm <| jB <| jF <| jA (jD (v := nv j) he_8) <| jA (jc (c := ((j + 1 : Nat) : Int)) rfl rfl (wr (by omega))) <| jA (jG (v := iv ((j + 1 : Nat) : Int)) rfl) <| jE <| kB [0] (A := [rC a_13 c_14 (putKey q ((l.getD j c0).1) ((l.getD j c0).2))]) rfl ?_
    refine jq (l.length - (j + 1)) (by omega) ⟨j + 1, a_13, c_14, (putKey q ((l.getD j c0).1) ((l.getD j c0).2)), by omega, by omega, (by rw [applyR_step hlt] at hR; exact hR), rfl, he_6, he_7, rfl, rfl, rfl⟩
  refine jR (cB (dF h_9)) <| jx <| jb <| jb <| jy <| jB <| jC <| jF <| jA (jD (v := .slice qa q.length qc) he_5) <| jA (jG (v := .slice qa q.length qc) rfl) ?_
  refine jE <| jB <| jN <| jV (.inl rfl) rfl (jJ (v := .slice qa q.length qc) rfl) (List.Sublist.refl _) ?_
  have he : q = applyR s l := by rw [show l.drop j = [] from List.drop_of_length_le (by omega)] at hR; exact hR
  exact ⟨qa, qc, by rw [he] <;> rfl, by rw [he] <;> rfl⟩

set_option maxRecDepth 4000 in
set_option maxHeartbeats 1000000 in
theorem Y_iRecov (d : DX) (hz : d.dat.okz) (hl : d.dat.lim 1000000000) :
    Ct Tryz.prog 33 [.agg #[.slice d.a d.l.length d.c, str d.jt, .int .i64 d.js]] [] (fun w => SeesA w (rdsD d) ∧ HexOk w) (fun v A' => ∃ a c, v = .tuple #[.slice a d.dat.recov.1.length c, .int .i64 d.dat.recov.2] ∧ A' = [.row (.slice a d.dat.recov.1.length c) 48 2 d.dat.recov.1.length (d.dat.recov.1.flatMap encC)]) := by
  refine Ct.introL Tryz.func33 rfl Tryz.ntmps33 (lb rfl) fun w0 hpre hlow => ?_
  have hs_1 : Sees w0 (.slice d.a d.l.length d.c) 3 d.l.length (d.l.flatMap encO) := (hpre.1).head
  have hi_2 : SeesA w0 (d.l.flatMap rdsO) := (hpre.1).tail
  have hjt := hz.k2
  have hdl : d.l.length ≤ 1000000000 := by have := hl.l0; simpa only [DX.dat, List.length_map] using this
  refine jC <| jF ?_
  refine jH rfl (kG (cs := [.slice d.a d.l.length d.c, str d.jt, iv d.js]) rfl rfl) ?_
  rintro _ _ ⟨b_3, rfl, rfl⟩
  refine jA (jG (v := .slice none 0 0) rfl) <| jA (jG (v := iv 0) rfl) <| jE <| jB <| jC <| jC <| jF <| jK (jO 0 (vs := [.slice d.a d.l.length d.c, str d.jt, iv d.js]) rfl rfl ke kd rfl rfl) ?_
  refine jH rfl (jI [] Tryz.call47 rfl (Y_implDiskOk d hz (by omega)) rfl (fun w hw => hw.seeOutA hpre.1 nMA)) ?_
  rintro _ _ ⟨_, ⟨rfl, rfl⟩, rfl⟩
  refine jA (jp rfl) <| jE <| jB ?_
  rcases Bool.eq_false_or_eq_true (diskOk d.dat) with h_4 | h_4
  · refine jR (cB (cN h_4)) <| jT <| jB <| jC ?_
    obtain ⟨q, hq, hql⟩ := diskOk_best h_4
    have hql : q < d.l.length := by simpa only [DX.dat, List.length_map] using hql
    have hjr := diskOk_jour h_4
    have hjr2 : ((d.jt.length : Nat) : Int) ≤ 20000 ∧ 0 ≤ d.js ∧ d.js ≤ ((d.jt.length : Nat) : Int) := by have h_ : jourOk d.jt d.js = true := hjr; simpa only [jourOk, within, Bool.and_eq_true, decide_eq_true_eq, and_assoc] using h_
    have hmost : (d.l.getD q o0).t.seq = mostOf d.dat := by rw [mostOf, hq, Int.toNat_natCast]; exact congrArg SD.seq getD_map'.symm
    have hmr := most_range h_4
    have hl2 := disk_two h_4
    have hbc : (d.l.getD q o0).t.cells = (d.dat.slots.getD (bestD d.dat).toNat o0.t).cells := by rw [hq, Int.toNat_natCast]; exact congrArg SD.cells getD_map'.symm
    have hsl : (d.l.getD q o0).t.cells.length ≤ 900 := by rw [hbc]; exact storeOk_len (best_ok h_4).2.2.2
    have hrc := recsOf_cells d.jt ((d.l.getD q o0).t.seq + 1)
    have hrle := recsOf_le d.jt ((d.l.getD q o0).t.seq + 1)
    refine kJ [bk b_3 31 [.slice d.a d.l.length d.c, str d.jt, iv d.js]] 7 mixed (by simp) <| jL 0 rfl (jQ fo31_0 rfl) <| jw 1 rfl (jZ 0 (v := .slice d.a d.l.length d.c) rfl rfl ks rfl) <| jw 2 rfl (jO 0 (vs := [.slice d.a d.l.length d.c, str d.jt, iv d.js]) rfl rfl ke kd rfl rfl) ?_
    refine JA.two (i := 3) (j := 6) (by kernel_rfl) ?_ ?_
    · refine jz rfl rfl (jI [] Tryz.call48 rfl (Y_iBestN d hz (by omega) q hq) rfl (fun w hw => hw.seeOutA hpre.1 nMA)) ?_
      rintro _ _ ⟨_, ⟨rfl, rfl⟩, rfl⟩
      refine ⟨by simp, ?_⟩
      obtain ⟨hr_6, hr_6b, -⟩ := sees_some hs_1 (by omega)
      refine jL 4 rfl (jk (i := q) km kj hr_6 hr_6b rfl rfl (by omega)) ?_
      have hi_7 := SeesA.elem hi_2 o0 (show q < d.l.length by omega)
      have hs_8 := seesO hi_7
      refine jw 5 rfl (kX (vs := [iv ((d.l.getD q o0).t.seq), .slice ((d.l.getD q o0).x.a0) ((d.l.getD q o0).t.cells.length) ((d.l.getD q o0).x.c0), .bool ((d.l.getD q o0).t.whole)]) hs_1 nM rfl gB kj (flat_take encO_len o0 d.l q (by omega)) rfl (by decide)) <| jj (i := 6) ?_
      refine jz rfl rfl (jo (z := .agg #[iv 0, .slice none 0 0, .bool false]) (cs := [iv 0, .slice none 0 0, .bool false]) gD rfl) ?_
      rintro _ _ ⟨b_10, rfl, rfl⟩
      refine ⟨by simp, ?_⟩
      refine jj (i := 7) ?_
      refine JX.ls rfl (ja 0 (vs := [iv ((d.l.getD q o0).t.seq), .slice ((d.l.getD q o0).x.a0) ((d.l.getD q o0).t.cells.length) ((d.l.getD q o0).x.c0), .bool ((d.l.getD q o0).t.whole)]) (cs' := [iv ((d.l.getD q o0).t.seq), .slice ((d.l.getD q o0).x.a0) ((d.l.getD q o0).t.cells.length) ((d.l.getD q o0).x.c0), .bool ((d.l.getD q o0).t.whole)]) rfl rfl rfl rfl kj rfl rfl (lb rfl) rfl) ?_
      rintro _ _ rfl
      refine jB <| jC <| jF <| jA (jQ fo31_1 rfl) <| jA (jQ fo29_0 rfl) <| jK (jZ 1 (v := str d.jt) rfl rfl ki rfl) <| jA (jQ fo60_0 rfl) <| jK (jZ 0 (v := iv ((d.l.getD q o0).t.seq)) rfl rfl kq rfl) <| jA (jc (c := ((d.l.getD q o0).t.seq) + 1) rfl rfl (wr (by omega))) ?_
      refine jH rfl (jI [] Tryz.call70 rfl (Y_iRecs d.jt (((d.l.getD q o0).t.seq) + 1) (by omega)) rfl (fun w hw => hw.hex hlow hpre.2)) ?_
      rintro _ _ ⟨_, ⟨a_11, c_12, y_13, hy_14, rfl, rfl⟩, rfl⟩
      refine jA (jD (v := .tuple #[.slice a_11 y_13.length c_12, iv (((recsOf d.jt (((d.l.getD q o0).t.seq) + 1)).2 : Nat) : Int)]) rfl) <| jA (je (v := .slice a_11 y_13.length c_12) rfl rfl) <| jA (je (v := iv (((recsOf d.jt (((d.l.getD q o0).t.seq) + 1)).2 : Nat) : Int)) rfl rfl) <| jA (jG (v := .slice a_11 y_13.length c_12) rfl) <| jA (jG (v := iv (((recsOf d.jt (((d.l.getD q o0).t.seq) + 1)).2 : Nat) : Int)) rfl) <| jE <| jB <| jC <| jF <| jA (jQ fo60_1 rfl) ?_
      refine jK (jZ 1 (v := .slice ((d.l.getD q o0).x.a0) ((d.l.getD q o0).t.cells.length) ((d.l.getD q o0).x.c0)) rfl rfl kz rfl) ?_
      refine jH rfl (jI [] Tryz.call74 rfl (C_cloneC (d.l.getD q o0).x.a0 ((d.l.getD q o0).x.c0) ((d.l.getD q o0).t.cells) (by omega)) rfl (fun w hw => hw.seeOut_ hs_8 nM)) ?_
      rintro _ _ ⟨_, ⟨a_15, c_16, rfl, rfl⟩, rfl⟩
      refine jA (jG (v := .slice a_15 (((d.l.getD q o0).t.cells).length) c_16) rfl) <| jE <| jB <| jC <| jC ?_
      have hys : y_13.map cellsR = (recsOf d.jt ((d.l.getD q o0).t.seq + 1)).1 := hy_14
      have hyc : sumC (y_13.map cellsR) ≤ 20000 := by rw [hys]; omega
      have hyn : y_13.length ≤ 20000 := by have h_ := congrArg List.length hys; rw [List.length_map] at h_; have h2_ := recsOf_count d.jt ((d.l.getD q o0).t.seq + 1); omega
      refine jF <| jA (jD (v := .slice a_11 y_13.length c_12) rfl) <| jA (jr kx rfl) <| jA (jD (v := iv 0) rfl) <| jE <| jB <| jf <| kT (L' := [Res.row (.slice a_11 y_13.length c_12) 49 1 y_13.length (y_13.flatMap encR), Res.rows (y_13.flatMap rdsR), rC a_15 c_16 ((d.l.getD q o0).t.cells), bk b_10 60 [iv ((d.l.getD q o0).t.seq), .slice ((d.l.getD q o0).x.a0) ((d.l.getD q o0).t.cells.length) ((d.l.getD q o0).x.c0), .bool ((d.l.getD q o0).t.whole)], bk b_3 31 [.slice d.a d.l.length d.c, str d.jt, iv d.js]]) (fun w hw => hw.headR (r := ⟨.slice a_11 y_13.length c_12, 49, 1, y_13.length, y_13.flatMap encR⟩) (A := y_13.flatMap rdsR) 1 rfl) <| kT (L' := [rC a_15 c_16 ((d.l.getD q o0).t.cells), Res.row (.slice a_11 y_13.length c_12) 49 1 y_13.length (y_13.flatMap encR), Res.rows (y_13.flatMap rdsR), bk b_10 60 [iv ((d.l.getD q o0).t.seq), .slice ((d.l.getD q o0).x.a0) ((d.l.getD q o0).t.cells.length) ((d.l.getD q o0).x.c0), .bool ((d.l.getD q o0).t.whole)], bk b_3 31 [.slice d.a d.l.length d.c, str d.jt, iv d.js]]) (fun w hw => hw.perm (pick_perm [2] (A := [rC a_15 c_16 ((d.l.getD q o0).t.cells)]) (F := [Res.row (.slice a_11 y_13.length c_12) 49 1 y_13.length (y_13.flatMap encR), Res.rows (y_13.flatMap rdsR), bk b_10 60 [iv ((d.l.getD q o0).t.seq), .slice ((d.l.getD q o0).x.a0) ((d.l.getD q o0).t.cells.length) ((d.l.getD q o0).x.c0), .bool ((d.l.getD q o0).t.whole)], bk b_3 31 [.slice d.a d.l.length d.c, str d.jt, iv d.js]]) rfl).symm) <| kD (fun k_ e_ L_ => ∃ j : Nat, ∃ sa : Option Addr, ∃ sc : Nat, ∃ s_ : List Cell, (j ≤ y_13.length) ∧ (s_.length + sumC ((y_13.map cellsR).drop j) ≤ 30000) ∧ (applyAll s_ ((y_13.map cellsR).drop j) = applyAll (d.l.getD q o0).t.cells (y_13.map cellsR)) ∧ e_ 2 = .slice none 0 0 ∧ e_ 3 = iv 0 ∧ e_ 4 = .pointer (some ⟨b_10, 0, none⟩) ∧ e_ 5 = .slice a_11 y_13.length c_12 ∧ e_ 7 = .slice sa s_.length sc ∧ e_ 34 = .slice a_11 y_13.length c_12 ∧ e_ 35 = nv y_13.length ∧ e_ 36 = nv j ∧ L_ = [rC sa sc s_, Res.row (.slice a_11 y_13.length c_12) 49 1 y_13.length (y_13.flatMap encR), Res.rows (y_13.flatMap rdsR), bk b_10 60 [iv ((d.l.getD q o0).t.seq), .slice ((d.l.getD q o0).x.a0) ((d.l.getD q o0).t.cells.length) ((d.l.getD q o0).x.c0), .bool ((d.l.getD q o0).t.whole)], bk b_3 31 [.slice d.a d.l.length d.c, str d.jt, iv d.js]] ∧ k_ = y_13.length - j) _ ⟨0, a_15, c_16, (d.l.getD q o0).t.cells, by omega, (by rw [List.drop_zero]; omega), rfl, rfl, rfl, rfl, rfl, rfl, rfl, rfl, rfl, rfl, rfl⟩ ?_
      rintro _ e_17 _ ⟨j, sa, sc, s_, hj, hb, hR, he_18, he_19, he_20, he_21, he_22, he_23, he_24, he_25, rfl, rfl⟩
      refine jC <| jF <| jA (jl he_25 he_24) <| jE <| jB <| jC ?_
      by_cases h_26 : ((j : Nat) : Int) < ((y_13.length : Nat) : Int)
      · have hlt : j < y_13.length := by omega
        have hsc := sumC_step hlt
        refine jW (cB (dT h_26)) <| jT <| jB <| jC <| jf <| jC <| jF ?_
        refine kN fun hst => ?_
        obtain ⟨hr_27, hr_27b, -⟩ := row_some 1 rfl (by omega) hst
        refine jA (jk (i := j) kx gM hr_27 hr_27b he_23 he_25 (by omega)) <| jK (ka 1 (v := .slice ((y_13.getD j r0).x.a0) ((y_13.getD j r0).t.cells.length) ((y_13.getD j r0).x.c0)) rfl rfl kz (flat_at encR_len r0 y_13 j 0 (by omega) (by decide))) <| jA (jG (v := .slice ((y_13.getD j r0).x.a0) ((y_13.getD j r0).t.cells.length) ((y_13.getD j r0).x.c0)) rfl) <| jE <| jB <| jC <| kT (L' := [Res.rows ((y_13.take j).flatMap rdsR), Res.rows (rdsR (y_13.getD j r0)), Res.rows ((y_13.drop (j + 1)).flatMap rdsR), rC sa sc s_, Res.row (.slice a_11 y_13.length c_12) 49 1 y_13.length (y_13.flatMap encR), bk b_10 60 [iv ((d.l.getD q o0).t.seq), .slice ((d.l.getD q o0).x.a0) ((d.l.getD q o0).t.cells.length) ((d.l.getD q o0).x.c0), .bool ((d.l.getD q o0).t.whole)], bk b_3 31 [.slice d.a d.l.length d.c, str d.jt, iv d.js]]) (fun w hw => hw.splitR 2 rfl (flatMap_at r0 hlt)) <| kT (L' := [Res.row (.slice ((y_13.getD j r0).x.a0) ((y_13.getD j r0).t.cells.length) ((y_13.getD j r0).x.c0)) 48 2 (((y_13.getD j r0).t.cells).length) (((y_13.getD j r0).t.cells).flatMap encC), Res.rows ((y_13.take j).flatMap rdsR), Res.rows ((y_13.drop (j + 1)).flatMap rdsR), rC sa sc s_, Res.row (.slice a_11 y_13.length c_12) 49 1 y_13.length (y_13.flatMap encR), bk b_10 60 [iv ((d.l.getD q o0).t.seq), .slice ((d.l.getD q o0).x.a0) ((d.l.getD q o0).t.cells.length) ((d.l.getD q o0).x.c0), .bool ((d.l.getD q o0).t.whole)], bk b_3 31 [.slice d.a d.l.length d.c, str d.jt, iv d.js]]) (fun w hw => hw.openR 1 rfl) <| jF <| jA (jD (v := .slice ((y_13.getD j r0).x.a0) ((y_13.getD j r0).t.cells.length) ((y_13.getD j r0).x.c0)) rfl) ?_
        refine jA (jr kf rfl) <| jA (jD (v := iv 0) rfl) <| jE <| jB <| jf <| kT (L' := [rC sa sc s_, Res.row (.slice ((y_13.getD j r0).x.a0) ((y_13.getD j r0).t.cells.length) ((y_13.getD j r0).x.c0)) 48 2 (((y_13.getD j r0).t.cells).length) (((y_13.getD j r0).t.cells).flatMap encC), Res.rows ((y_13.take j).flatMap rdsR), Res.rows ((y_13.drop (j + 1)).flatMap rdsR), Res.row (.slice a_11 y_13.length c_12) 49 1 y_13.length (y_13.flatMap encR), bk b_10 60 [iv ((d.l.getD q o0).t.seq), .slice ((d.l.getD q o0).x.a0) ((d.l.getD q o0).t.cells.length) ((d.l.getD q o0).x.c0), .bool ((d.l.getD q o0).t.whole)], bk b_3 31 [.slice d.a d.l.length d.c, str d.jt, iv d.js]]) (fun w hw => hw.perm (pick_perm [3] (A := [rC sa sc s_]) (F := [Res.row (.slice ((y_13.getD j r0).x.a0) ((y_13.getD j r0).t.cells.length) ((y_13.getD j r0).x.c0)) 48 2 (((y_13.getD j r0).t.cells).length) (((y_13.getD j r0).t.cells).flatMap encC), Res.rows ((y_13.take j).flatMap rdsR), Res.rows ((y_13.drop (j + 1)).flatMap rdsR), Res.row (.slice a_11 y_13.length c_12) 49 1 y_13.length (y_13.flatMap encR), bk b_10 60 [iv ((d.l.getD q o0).t.seq), .slice ((d.l.getD q o0).x.a0) ((d.l.getD q o0).t.cells.length) ((d.l.getD q o0).x.c0), .bool ((d.l.getD q o0).t.whole)], bk b_3 31 [.slice d.a d.l.length d.c, str d.jt, iv d.js]]) rfl).symm) <| kD (fun k_ e_ L_ => ∃ i : Nat, ∃ qa : Option Addr, ∃ qc : Nat, ∃ q_ : List Cell, (i ≤ (y_13.getD j r0).t.cells.length) ∧ (q_.length + ((y_13.getD j r0).t.cells.length - i) ≤ s_.length + (y_13.getD j r0).t.cells.length) ∧ (applyR q_ ((y_13.getD j r0).t.cells.drop i) = applyR s_ (y_13.getD j r0).t.cells) ∧ e_ 2 = .slice none 0 0 ∧ e_ 3 = iv 0 ∧ e_ 4 = .pointer (some ⟨b_10, 0, none⟩) ∧ e_ 5 = .slice a_11 y_13.length c_12 ∧ e_ 7 = .slice qa q_.length qc ∧ e_ 34 = .slice a_11 y_13.length c_12 ∧ e_ 35 = nv y_13.length ∧ e_ 36 = nv j ∧ e_ 40 = .slice ((y_13.getD j r0).x.a0) ((y_13.getD j r0).t.cells.length) ((y_13.getD j r0).x.c0) ∧ e_ 41 = iv (((y_13.getD j r0).t.cells.length : Nat) : Int) ∧ e_ 42 = nv i ∧ L_ = [rC qa qc q_, Res.row (.slice ((y_13.getD j r0).x.a0) ((y_13.getD j r0).t.cells.length) ((y_13.getD j r0).x.c0)) 48 2 (((y_13.getD j r0).t.cells).length) (((y_13.getD j r0).t.cells).flatMap encC), Res.rows ((y_13.take j).flatMap rdsR), Res.rows ((y_13.drop (j + 1)).flatMap rdsR), Res.row (.slice a_11 y_13.length c_12) 49 1 y_13.length (y_13.flatMap encR), bk b_10 60 [iv ((d.l.getD q o0).t.seq), .slice ((d.l.getD q o0).x.a0) ((d.l.getD q o0).t.cells.length) ((d.l.getD q o0).x.c0), .bool ((d.l.getD q o0).t.whole)], bk b_3 31 [.slice d.a d.l.length d.c, str d.jt, iv d.js]] ∧ k_ = (y_13.getD j r0).t.cells.length - i) _ ⟨0, sa, sc, s_, by omega, by omega, rfl, he_18, he_19, he_20, he_21, he_22, he_23, he_24, he_25, rfl, rfl, rfl, rfl, rfl⟩ ?_
        rintro _ e_28 _ ⟨i, qa, qc, q_, hi, hb2, hR2, he_29, he_30, he_31, he_32, he_33, he_34, he_35, he_36, he_37, he_38, he_39, rfl, rfl⟩
        refine jC <| jF <| jA (jl he_39 he_38) <| jE <| jB <| jC ?_
        by_cases h_40 : ((i : Nat) : Int) < (((y_13.getD j r0).t.cells.length : Nat) : Int)
        · have hlt2 : i < (y_13.getD j r0).t.cells.length := by omega
          have hkl := (rec_key hys hlt hlt2).1
          have hpl := putKey_one q_ ((y_13.getD j r0).t.cells.getD i c0).1 ((y_13.getD j r0).t.cells.getD i c0).2
          refine jW (cB (dT h_40)) <| jT <| jB <| jC <| jf <| jC <| jF ?_
          refine kN fun hst => ?_
          obtain ⟨hr_41, hr_41b, -⟩ := row_some 1 rfl (by omega) hst
          refine jA (jk (i := i) kf kh hr_41 hr_41b he_37 he_39 (by omega)) <| jK (LO.loadRK 1 (vs := [str ((((y_13.getD j r0).t.cells).getD i c0).1), str ((((y_13.getD j r0).t.cells).getD i c0).2)]) rfl rfl gG kh (atC (by omega)) rfl (by decide)) ?_
          refine jH rfl (jo (z := .agg #[str [], str []]) (cs := [str [], str []]) kw rfl) ?_
          rintro _ _ ⟨b_42, rfl, rfl⟩
          refine jH rfl (ja 0 (vs := [str ((((y_13.getD j r0).t.cells).getD i c0).1), str ((((y_13.getD j r0).t.cells).getD i c0).2)]) (cs' := [str ((((y_13.getD j r0).t.cells).getD i c0).1), str ((((y_13.getD j r0).t.cells).getD i c0).2)]) rfl rfl rfl rfl kh rfl rfl (lb rfl) rfl) ?_
          rintro _ _ rfl
          refine jE <| jB <| jF <| jA (jD (v := .slice qa q_.length qc) he_33) <| jA (jQ fo48_0 rfl) <| jK (jZ 0 (v := str ((((y_13.getD j r0).t.cells).getD i c0).1)) rfl rfl ki rfl) <| jA (jQ fo48_1 rfl) <| jK (jZ 0 (v := str ((((y_13.getD j r0).t.cells).getD i c0).2)) rfl rfl ki rfl) ?_
          refine jH rfl (jI [1] Tryz.call86 rfl (C_put qa qc q_ ((((y_13.getD j r0).t.cells).getD i c0).1) ((((y_13.getD j r0).t.cells).getD i c0).2) (by omega) (by omega)) rfl (fun _ _ => trivial)) ?_
          rintro _ _ ⟨_, ⟨a_43, c_44, rfl, rfl⟩, rfl⟩
          refine jA (jG (v := .slice a_43 ((putKey q_ ((((y_13.getD j r0).t.cells).getD i c0).1) ((((y_13.getD j r0).t.cells).getD i c0).2)).length) c_44) rfl) <| jE <| jm <| jB <| jF <| jA (jc (c := ((i + 1 : Nat) : Int)) he_39 rfl (wr (by omega))) <| jA (jD (v := iv ((i + 1 : Nat) : Int)) rfl) <| jE <| kB [0, 1, 1, 1, 1, 1, 1] (A := [rC a_43 c_44 (putKey q_ ((((y_13.getD j r0).t.cells).getD i c0).1) ((((y_13.getD j r0).t.cells).getD i c0).2)), Res.row (.slice ((y_13.getD j r0).x.a0) ((y_13.getD j r0).t.cells.length) ((y_13.getD j r0).x.c0)) 48 2 (((y_13.getD j r0).t.cells).length) (((y_13.getD j r0).t.cells).flatMap encC), Res.rows ((y_13.take j).flatMap rdsR), Res.rows ((y_13.drop (j + 1)).flatMap rdsR), Res.row (.slice a_11 y_13.length c_12) 49 1 y_13.length (y_13.flatMap encR), bk b_10 60 [iv ((d.l.getD q o0).t.seq), .slice ((d.l.getD q o0).x.a0) ((d.l.getD q o0).t.cells.length) ((d.l.getD q o0).x.c0), .bool ((d.l.getD q o0).t.whole)], bk b_3 31 [.slice d.a d.l.length d.c, str d.jt, iv d.js]]) rfl ?_
          refine jq ((y_13.getD j r0).t.cells.length - (i + 1)) (by omega) ⟨i + 1, a_43, c_44, (putKey q_ ((((y_13.getD j r0).t.cells).getD i c0).1) ((((y_13.getD j r0).t.cells).getD i c0).2)), by omega, by omega, (by rw [applyR_step hlt2] at hR2; exact hR2), he_29, he_30, he_31, he_32, rfl, he_34, he_35, he_36, he_37, he_38, rfl, rfl, rfl⟩
        refine jR (cB (dF h_40)) <| jx <| jb <| jb <| jy <| jm <| jB <| jF <| jA (jc (c := ((j + 1 : Nat) : Int)) he_36 rfl (wr (by omega))) <| jA (jD (v := iv ((j + 1 : Nat) : Int)) rfl) ?_
        refine jE <| ju (L' := [Res.rows (rdsR (y_13.getD j r0)), rC qa qc q_, Res.rows ((y_13.take j).flatMap rdsR), Res.rows ((y_13.drop (j + 1)).flatMap rdsR), Res.row (.slice a_11 y_13.length c_12) 49 1 y_13.length (y_13.flatMap encR), bk b_10 60 [iv ((d.l.getD q o0).t.seq), .slice ((d.l.getD q o0).x.a0) ((d.l.getD q o0).t.cells.length) ((d.l.getD q o0).x.c0), .bool ((d.l.getD q o0).t.whole)], bk b_3 31 [.slice d.a d.l.length d.c, str d.jt, iv d.js]]) (fun w hw => hw.closeR (A := rdsR (y_13.getD j r0)) [1] rfl) <| ju (L' := [Res.rows (y_13.flatMap rdsR), rC qa qc q_, Res.row (.slice a_11 y_13.length c_12) 49 1 y_13.length (y_13.flatMap encR), bk b_10 60 [iv ((d.l.getD q o0).t.seq), .slice ((d.l.getD q o0).x.a0) ((d.l.getD q o0).t.cells.length) ((d.l.getD q o0).x.c0), .bool ((d.l.getD q o0).t.whole)], bk b_3 31 [.slice d.a d.l.length d.c, str d.jt, iv d.js]]) (fun w hw => hw.joinR [2, 0, 1] rfl (flatMap_at r0 hlt)) <| kB [1, 1, 0, 0, 0] (A := [rC qa qc q_, Res.row (.slice a_11 y_13.length c_12) 49 1 y_13.length (y_13.flatMap encR), Res.rows (y_13.flatMap rdsR), bk b_10 60 [iv ((d.l.getD q o0).t.seq), .slice ((d.l.getD q o0).x.a0) ((d.l.getD q o0).t.cells.length) ((d.l.getD q o0).x.c0), .bool ((d.l.getD q o0).t.whole)], bk b_3 31 [.slice d.a d.l.length d.c, str d.jt, iv d.js]]) rfl ?_
        refine jq (y_13.length - (j + 1)) (by omega) ⟨j + 1, qa, qc, q_, by omega, by omega, (by rw [applyAll_step hlt] at hR; rw [show (y_13.getD j r0).t.cells.drop i = [] from List.drop_of_length_le (by omega)] at hR2; rw [← hR2] at hR; exact hR), he_29, he_30, he_31, he_32, he_33, he_34, he_35, rfl, rfl, rfl⟩
      refine jR (cB (dF h_26)) <| jx <| jb <| jb <| jy <| jB <| jC <| kJ [rC sa sc s_, Res.row (.slice a_11 y_13.length c_12) 49 1 y_13.length (y_13.flatMap encR), Res.rows (y_13.flatMap rdsR), bk b_10 60 [iv ((d.l.getD q o0).t.seq), .slice ((d.l.getD q o0).x.a0) ((d.l.getD q o0).t.cells.length) ((d.l.getD q o0).x.c0), .bool ((d.l.getD q o0).t.whole)], bk b_3 31 [.slice d.a d.l.length d.c, str d.jt, iv d.js]] 0 mixed (by simp) <| jL 0 rfl (jD (v := .slice sa s_.length sc) he_22) <| jL 1 rfl (jQ fo60_0 he_20) ?_
      refine jL 3 rfl (jD (v := .slice a_11 y_13.length c_12) he_21) <| jL 4 rfl (jr kx rfl) <| jL 6 rfl (jG (v := .slice sa s_.length sc) rfl) <| jj (i := 2) ?_
      refine JX.lt rfl (jP (jZ 3 (v := iv ((d.l.getD q o0).t.seq)) rfl rfl kq rfl)) ?_
      rintro _ _ ⟨rfl, rfl⟩
      refine jL 5 rfl (jc (c := ((d.l.getD q o0).t.seq) + ((y_13.length : Nat) : Int)) rfl rfl (wr (by omega))) <| jL 7 rfl (jG (v := iv (((d.l.getD q o0).t.seq) + ((y_13.length : Nat) : Int))) rfl) <| kI (by kernel_rfl) <| jB <| jN <| kC (.inl rfl) rfl (jJ (v := .slice sa s_.length sc) rfl) (jJ (v := iv (((d.l.getD q o0).t.seq) + ((y_13.length : Nat) : Int))) rfl) (tS 1 _) ?_
      have hf : s_ = applyAll (d.l.getD q o0).t.cells (y_13.map cellsR) := by rw [show (y_13.map cellsR).drop j = [] from List.drop_of_length_le (by rw [List.length_map]; omega)] at hR; exact hR
      have he := recov_eq h_4 hbc hmost hys hf (List.length_map _)
      exact ⟨sa, sc, by rw [he] <;> rfl, by rw [he] <;> rfl⟩
    refine jz rfl rfl (jo (z := .agg #[iv 0, .slice none 0 0, .bool false]) (cs := [iv 0, .slice none 0 0, .bool false]) gD rfl) ?_
    rintro _ _ ⟨b_45, rfl, rfl⟩
    refine ⟨by simp, ?_⟩
    refine jj (i := 3) ?_
    refine jz rfl rfl (jI [] Tryz.call48 rfl (Y_iBestN d hz (by omega) q hq) rfl (fun w hw => hw.seeOutA hpre.1 nMA)) ?_
    rintro _ _ ⟨_, ⟨rfl, rfl⟩, rfl⟩
    refine ⟨by simp, ?_⟩
    obtain ⟨hr_46, hr_46b, -⟩ := sees_some hs_1 (by omega)
    refine jL 4 rfl (jk (i := q) km kj hr_46 hr_46b rfl rfl (by omega)) ?_
    have hi_47 := SeesA.elem hi_2 o0 (show q < d.l.length by omega)
    have hs_48 := seesO hi_47
    refine jw 5 rfl (kX (vs := [iv ((d.l.getD q o0).t.seq), .slice ((d.l.getD q o0).x.a0) ((d.l.getD q o0).t.cells.length) ((d.l.getD q o0).x.c0), .bool ((d.l.getD q o0).t.whole)]) hs_1 nM rfl gB kj (flat_take encO_len o0 d.l q (by omega)) rfl (by decide)) <| jj (i := 7) ?_
    refine JX.ls rfl (ja 0 (vs := [iv ((d.l.getD q o0).t.seq), .slice ((d.l.getD q o0).x.a0) ((d.l.getD q o0).t.cells.length) ((d.l.getD q o0).x.c0), .bool ((d.l.getD q o0).t.whole)]) (cs' := [iv ((d.l.getD q o0).t.seq), .slice ((d.l.getD q o0).x.a0) ((d.l.getD q o0).t.cells.length) ((d.l.getD q o0).x.c0), .bool ((d.l.getD q o0).t.whole)]) rfl rfl rfl rfl kj rfl rfl (lb rfl) rfl) ?_
    rintro _ _ rfl
    refine jB <| jC <| jF <| jA (jQ fo31_1 rfl) <| jA (jQ fo29_0 rfl) <| jK (jZ 1 (v := str d.jt) rfl rfl ki rfl) <| jA (jQ fo60_0 rfl) <| jK (jZ 0 (v := iv ((d.l.getD q o0).t.seq)) rfl rfl kq rfl) <| jA (jc (c := ((d.l.getD q o0).t.seq) + 1) rfl rfl (wr (by omega))) ?_
    refine jH rfl (jI [] Tryz.call70 rfl (Y_iRecs d.jt (((d.l.getD q o0).t.seq) + 1) (by omega)) rfl (fun w hw => hw.hex hlow hpre.2)) ?_
    rintro _ _ ⟨_, ⟨a_49, c_50, y_51, hy_52, rfl, rfl⟩, rfl⟩
    refine jA (jD (v := .tuple #[.slice a_49 y_51.length c_50, iv (((recsOf d.jt (((d.l.getD q o0).t.seq) + 1)).2 : Nat) : Int)]) rfl) <| jA (je (v := .slice a_49 y_51.length c_50) rfl rfl) <| jA (je (v := iv (((recsOf d.jt (((d.l.getD q o0).t.seq) + 1)).2 : Nat) : Int)) rfl rfl) <| jA (jG (v := .slice a_49 y_51.length c_50) rfl) <| jA (jG (v := iv (((recsOf d.jt (((d.l.getD q o0).t.seq) + 1)).2 : Nat) : Int)) rfl) <| jE <| jB <| jC <| jF <| jA (jQ fo60_1 rfl) ?_
    refine jK (jZ 1 (v := .slice ((d.l.getD q o0).x.a0) ((d.l.getD q o0).t.cells.length) ((d.l.getD q o0).x.c0)) rfl rfl kz rfl) ?_
    refine jH rfl (jI [] Tryz.call74 rfl (C_cloneC (d.l.getD q o0).x.a0 ((d.l.getD q o0).x.c0) ((d.l.getD q o0).t.cells) (by omega)) rfl (fun w hw => hw.seeOut_ hs_48 nM)) ?_
    rintro _ _ ⟨_, ⟨a_53, c_54, rfl, rfl⟩, rfl⟩
    refine jA (jG (v := .slice a_53 (((d.l.getD q o0).t.cells).length) c_54) rfl) <| jE <| jB <| jC <| jC ?_
    have hys : y_51.map cellsR = (recsOf d.jt ((d.l.getD q o0).t.seq + 1)).1 := hy_52
    have hyc : sumC (y_51.map cellsR) ≤ 20000 := by rw [hys]; omega
    have hyn : y_51.length ≤ 20000 := by have h_ := congrArg List.length hys; rw [List.length_map] at h_; have h2_ := recsOf_count d.jt ((d.l.getD q o0).t.seq + 1); omega
    refine jF <| jA (jD (v := .slice a_49 y_51.length c_50) rfl) <| jA (jr kx rfl) <| jA (jD (v := iv 0) rfl) <| jE <| jB <| jf <| kT (L' := [Res.row (.slice a_49 y_51.length c_50) 49 1 y_51.length (y_51.flatMap encR), Res.rows (y_51.flatMap rdsR), rC a_53 c_54 ((d.l.getD q o0).t.cells), bk b_45 60 [iv ((d.l.getD q o0).t.seq), .slice ((d.l.getD q o0).x.a0) ((d.l.getD q o0).t.cells.length) ((d.l.getD q o0).x.c0), .bool ((d.l.getD q o0).t.whole)], bk b_3 31 [.slice d.a d.l.length d.c, str d.jt, iv d.js]]) (fun w hw => hw.headR (r := ⟨.slice a_49 y_51.length c_50, 49, 1, y_51.length, y_51.flatMap encR⟩) (A := y_51.flatMap rdsR) 1 rfl) <| kT (L' := [rC a_53 c_54 ((d.l.getD q o0).t.cells), Res.row (.slice a_49 y_51.length c_50) 49 1 y_51.length (y_51.flatMap encR), Res.rows (y_51.flatMap rdsR), bk b_45 60 [iv ((d.l.getD q o0).t.seq), .slice ((d.l.getD q o0).x.a0) ((d.l.getD q o0).t.cells.length) ((d.l.getD q o0).x.c0), .bool ((d.l.getD q o0).t.whole)], bk b_3 31 [.slice d.a d.l.length d.c, str d.jt, iv d.js]]) (fun w hw => hw.perm (pick_perm [2] (A := [rC a_53 c_54 ((d.l.getD q o0).t.cells)]) (F := [Res.row (.slice a_49 y_51.length c_50) 49 1 y_51.length (y_51.flatMap encR), Res.rows (y_51.flatMap rdsR), bk b_45 60 [iv ((d.l.getD q o0).t.seq), .slice ((d.l.getD q o0).x.a0) ((d.l.getD q o0).t.cells.length) ((d.l.getD q o0).x.c0), .bool ((d.l.getD q o0).t.whole)], bk b_3 31 [.slice d.a d.l.length d.c, str d.jt, iv d.js]]) rfl).symm) <| kD (fun k_ e_ L_ => ∃ j : Nat, ∃ sa : Option Addr, ∃ sc : Nat, ∃ s_ : List Cell, (j ≤ y_51.length) ∧ (s_.length + sumC ((y_51.map cellsR).drop j) ≤ 30000) ∧ (applyAll s_ ((y_51.map cellsR).drop j) = applyAll (d.l.getD q o0).t.cells (y_51.map cellsR)) ∧ e_ 2 = .slice none 0 0 ∧ e_ 3 = iv 0 ∧ e_ 4 = .pointer (some ⟨b_45, 0, none⟩) ∧ e_ 5 = .slice a_49 y_51.length c_50 ∧ e_ 7 = .slice sa s_.length sc ∧ e_ 34 = .slice a_49 y_51.length c_50 ∧ e_ 35 = nv y_51.length ∧ e_ 36 = nv j ∧ L_ = [rC sa sc s_, Res.row (.slice a_49 y_51.length c_50) 49 1 y_51.length (y_51.flatMap encR), Res.rows (y_51.flatMap rdsR), bk b_45 60 [iv ((d.l.getD q o0).t.seq), .slice ((d.l.getD q o0).x.a0) ((d.l.getD q o0).t.cells.length) ((d.l.getD q o0).x.c0), .bool ((d.l.getD q o0).t.whole)], bk b_3 31 [.slice d.a d.l.length d.c, str d.jt, iv d.js]] ∧ k_ = y_51.length - j) _ ⟨0, a_53, c_54, (d.l.getD q o0).t.cells, by omega, (by rw [List.drop_zero]; omega), rfl, rfl, rfl, rfl, rfl, rfl, rfl, rfl, rfl, rfl, rfl⟩ ?_
    rintro _ e_55 _ ⟨j, sa, sc, s_, hj, hb, hR, he_56, he_57, he_58, he_59, he_60, he_61, he_62, he_63, rfl, rfl⟩
    refine jC <| jF <| jA (jl he_63 he_62) <| jE <| jB <| jC ?_
    by_cases h_64 : ((j : Nat) : Int) < ((y_51.length : Nat) : Int)
    · have hlt : j < y_51.length := by omega
      have hsc := sumC_step hlt
      refine jW (cB (dT h_64)) <| jT <| jB <| jC <| jf <| jC <| jF ?_
      refine kN fun hst => ?_
      obtain ⟨hr_65, hr_65b, -⟩ := row_some 1 rfl (by omega) hst
      refine jA (jk (i := j) kx gM hr_65 hr_65b he_61 he_63 (by omega)) <| jK (ka 1 (v := .slice ((y_51.getD j r0).x.a0) ((y_51.getD j r0).t.cells.length) ((y_51.getD j r0).x.c0)) rfl rfl kz (flat_at encR_len r0 y_51 j 0 (by omega) (by decide))) <| jA (jG (v := .slice ((y_51.getD j r0).x.a0) ((y_51.getD j r0).t.cells.length) ((y_51.getD j r0).x.c0)) rfl) <| jE <| jB <| jC <| kT (L' := [Res.rows ((y_51.take j).flatMap rdsR), Res.rows (rdsR (y_51.getD j r0)), Res.rows ((y_51.drop (j + 1)).flatMap rdsR), rC sa sc s_, Res.row (.slice a_49 y_51.length c_50) 49 1 y_51.length (y_51.flatMap encR), bk b_45 60 [iv ((d.l.getD q o0).t.seq), .slice ((d.l.getD q o0).x.a0) ((d.l.getD q o0).t.cells.length) ((d.l.getD q o0).x.c0), .bool ((d.l.getD q o0).t.whole)], bk b_3 31 [.slice d.a d.l.length d.c, str d.jt, iv d.js]]) (fun w hw => hw.splitR 2 rfl (flatMap_at r0 hlt)) <| kT (L' := [Res.row (.slice ((y_51.getD j r0).x.a0) ((y_51.getD j r0).t.cells.length) ((y_51.getD j r0).x.c0)) 48 2 (((y_51.getD j r0).t.cells).length) (((y_51.getD j r0).t.cells).flatMap encC), Res.rows ((y_51.take j).flatMap rdsR), Res.rows ((y_51.drop (j + 1)).flatMap rdsR), rC sa sc s_, Res.row (.slice a_49 y_51.length c_50) 49 1 y_51.length (y_51.flatMap encR), bk b_45 60 [iv ((d.l.getD q o0).t.seq), .slice ((d.l.getD q o0).x.a0) ((d.l.getD q o0).t.cells.length) ((d.l.getD q o0).x.c0), .bool ((d.l.getD q o0).t.whole)], bk b_3 31 [.slice d.a d.l.length d.c, str d.jt, iv d.js]]) (fun w hw => hw.openR 1 rfl) <| jF <| jA (jD (v := .slice ((y_51.getD j r0).x.a0) ((y_51.getD j r0).t.cells.length) ((y_51.getD j r0).x.c0)) rfl) ?_
      refine jA (jr kf rfl) <| jA (jD (v := iv 0) rfl) <| jE <| jB <| jf <| kT (L' := [rC sa sc s_, Res.row (.slice ((y_51.getD j r0).x.a0) ((y_51.getD j r0).t.cells.length) ((y_51.getD j r0).x.c0)) 48 2 (((y_51.getD j r0).t.cells).length) (((y_51.getD j r0).t.cells).flatMap encC), Res.rows ((y_51.take j).flatMap rdsR), Res.rows ((y_51.drop (j + 1)).flatMap rdsR), Res.row (.slice a_49 y_51.length c_50) 49 1 y_51.length (y_51.flatMap encR), bk b_45 60 [iv ((d.l.getD q o0).t.seq), .slice ((d.l.getD q o0).x.a0) ((d.l.getD q o0).t.cells.length) ((d.l.getD q o0).x.c0), .bool ((d.l.getD q o0).t.whole)], bk b_3 31 [.slice d.a d.l.length d.c, str d.jt, iv d.js]]) (fun w hw => hw.perm (pick_perm [3] (A := [rC sa sc s_]) (F := [Res.row (.slice ((y_51.getD j r0).x.a0) ((y_51.getD j r0).t.cells.length) ((y_51.getD j r0).x.c0)) 48 2 (((y_51.getD j r0).t.cells).length) (((y_51.getD j r0).t.cells).flatMap encC), Res.rows ((y_51.take j).flatMap rdsR), Res.rows ((y_51.drop (j + 1)).flatMap rdsR), Res.row (.slice a_49 y_51.length c_50) 49 1 y_51.length (y_51.flatMap encR), bk b_45 60 [iv ((d.l.getD q o0).t.seq), .slice ((d.l.getD q o0).x.a0) ((d.l.getD q o0).t.cells.length) ((d.l.getD q o0).x.c0), .bool ((d.l.getD q o0).t.whole)], bk b_3 31 [.slice d.a d.l.length d.c, str d.jt, iv d.js]]) rfl).symm) <| kD (fun k_ e_ L_ => ∃ i : Nat, ∃ qa : Option Addr, ∃ qc : Nat, ∃ q_ : List Cell, (i ≤ (y_51.getD j r0).t.cells.length) ∧ (q_.length + ((y_51.getD j r0).t.cells.length - i) ≤ s_.length + (y_51.getD j r0).t.cells.length) ∧ (applyR q_ ((y_51.getD j r0).t.cells.drop i) = applyR s_ (y_51.getD j r0).t.cells) ∧ e_ 2 = .slice none 0 0 ∧ e_ 3 = iv 0 ∧ e_ 4 = .pointer (some ⟨b_45, 0, none⟩) ∧ e_ 5 = .slice a_49 y_51.length c_50 ∧ e_ 7 = .slice qa q_.length qc ∧ e_ 34 = .slice a_49 y_51.length c_50 ∧ e_ 35 = nv y_51.length ∧ e_ 36 = nv j ∧ e_ 40 = .slice ((y_51.getD j r0).x.a0) ((y_51.getD j r0).t.cells.length) ((y_51.getD j r0).x.c0) ∧ e_ 41 = iv (((y_51.getD j r0).t.cells.length : Nat) : Int) ∧ e_ 42 = nv i ∧ L_ = [rC qa qc q_, Res.row (.slice ((y_51.getD j r0).x.a0) ((y_51.getD j r0).t.cells.length) ((y_51.getD j r0).x.c0)) 48 2 (((y_51.getD j r0).t.cells).length) (((y_51.getD j r0).t.cells).flatMap encC), Res.rows ((y_51.take j).flatMap rdsR), Res.rows ((y_51.drop (j + 1)).flatMap rdsR), Res.row (.slice a_49 y_51.length c_50) 49 1 y_51.length (y_51.flatMap encR), bk b_45 60 [iv ((d.l.getD q o0).t.seq), .slice ((d.l.getD q o0).x.a0) ((d.l.getD q o0).t.cells.length) ((d.l.getD q o0).x.c0), .bool ((d.l.getD q o0).t.whole)], bk b_3 31 [.slice d.a d.l.length d.c, str d.jt, iv d.js]] ∧ k_ = (y_51.getD j r0).t.cells.length - i) _ ⟨0, sa, sc, s_, by omega, by omega, rfl, he_56, he_57, he_58, he_59, he_60, he_61, he_62, he_63, rfl, rfl, rfl, rfl, rfl⟩ ?_
      rintro _ e_66 _ ⟨i, qa, qc, q_, hi, hb2, hR2, he_67, he_68, he_69, he_70, he_71, he_72, he_73, he_74, he_75, he_76, he_77, rfl, rfl⟩
      refine jC <| jF <| jA (jl he_77 he_76) <| jE <| jB <| jC ?_
      by_cases h_78 : ((i : Nat) : Int) < (((y_51.getD j r0).t.cells.length : Nat) : Int)
      · have hlt2 : i < (y_51.getD j r0).t.cells.length := by omega
        have hkl := (rec_key hys hlt hlt2).1
        have hpl := putKey_one q_ ((y_51.getD j r0).t.cells.getD i c0).1 ((y_51.getD j r0).t.cells.getD i c0).2
        refine jW (cB (dT h_78)) <| jT <| jB <| jC <| jf <| jC <| jF ?_
        refine kN fun hst => ?_
        obtain ⟨hr_79, hr_79b, -⟩ := row_some 1 rfl (by omega) hst
        refine jA (jk (i := i) kf kh hr_79 hr_79b he_75 he_77 (by omega)) <| jK (LO.loadRK 1 (vs := [str ((((y_51.getD j r0).t.cells).getD i c0).1), str ((((y_51.getD j r0).t.cells).getD i c0).2)]) rfl rfl gG kh (atC (by omega)) rfl (by decide)) ?_
        refine jH rfl (jo (z := .agg #[str [], str []]) (cs := [str [], str []]) kw rfl) ?_
        rintro _ _ ⟨b_80, rfl, rfl⟩
        refine jH rfl (ja 0 (vs := [str ((((y_51.getD j r0).t.cells).getD i c0).1), str ((((y_51.getD j r0).t.cells).getD i c0).2)]) (cs' := [str ((((y_51.getD j r0).t.cells).getD i c0).1), str ((((y_51.getD j r0).t.cells).getD i c0).2)]) rfl rfl rfl rfl kh rfl rfl (lb rfl) rfl) ?_
        rintro _ _ rfl
        refine jE <| jB <| jF <| jA (jD (v := .slice qa q_.length qc) he_71) <| jA (jQ fo48_0 rfl) <| jK (jZ 0 (v := str ((((y_51.getD j r0).t.cells).getD i c0).1)) rfl rfl ki rfl) <| jA (jQ fo48_1 rfl) <| jK (jZ 0 (v := str ((((y_51.getD j r0).t.cells).getD i c0).2)) rfl rfl ki rfl) ?_
        refine jH rfl (jI [1] Tryz.call86 rfl (C_put qa qc q_ ((((y_51.getD j r0).t.cells).getD i c0).1) ((((y_51.getD j r0).t.cells).getD i c0).2) (by omega) (by omega)) rfl (fun _ _ => trivial)) ?_
        rintro _ _ ⟨_, ⟨a_81, c_82, rfl, rfl⟩, rfl⟩
        refine jA (jG (v := .slice a_81 ((putKey q_ ((((y_51.getD j r0).t.cells).getD i c0).1) ((((y_51.getD j r0).t.cells).getD i c0).2)).length) c_82) rfl) <| jE <| jm <| jB <| jF <| jA (jc (c := ((i + 1 : Nat) : Int)) he_77 rfl (wr (by omega))) <| jA (jD (v := iv ((i + 1 : Nat) : Int)) rfl) <| jE <| kB [0, 1, 1, 1, 1, 1, 1] (A := [rC a_81 c_82 (putKey q_ ((((y_51.getD j r0).t.cells).getD i c0).1) ((((y_51.getD j r0).t.cells).getD i c0).2)), Res.row (.slice ((y_51.getD j r0).x.a0) ((y_51.getD j r0).t.cells.length) ((y_51.getD j r0).x.c0)) 48 2 (((y_51.getD j r0).t.cells).length) (((y_51.getD j r0).t.cells).flatMap encC), Res.rows ((y_51.take j).flatMap rdsR), Res.rows ((y_51.drop (j + 1)).flatMap rdsR), Res.row (.slice a_49 y_51.length c_50) 49 1 y_51.length (y_51.flatMap encR), bk b_45 60 [iv ((d.l.getD q o0).t.seq), .slice ((d.l.getD q o0).x.a0) ((d.l.getD q o0).t.cells.length) ((d.l.getD q o0).x.c0), .bool ((d.l.getD q o0).t.whole)], bk b_3 31 [.slice d.a d.l.length d.c, str d.jt, iv d.js]]) rfl ?_
        refine jq ((y_51.getD j r0).t.cells.length - (i + 1)) (by omega) ⟨i + 1, a_81, c_82, (putKey q_ ((((y_51.getD j r0).t.cells).getD i c0).1) ((((y_51.getD j r0).t.cells).getD i c0).2)), by omega, by omega, (by rw [applyR_step hlt2] at hR2; exact hR2), he_67, he_68, he_69, he_70, rfl, he_72, he_73, he_74, he_75, he_76, rfl, rfl, rfl⟩
      refine jR (cB (dF h_78)) <| jx <| jb <| jb <| jy <| jm <| jB <| jF <| jA (jc (c := ((j + 1 : Nat) : Int)) he_74 rfl (wr (by omega))) <| jA (jD (v := iv ((j + 1 : Nat) : Int)) rfl) ?_
      refine jE <| ju (L' := [Res.rows (rdsR (y_51.getD j r0)), rC qa qc q_, Res.rows ((y_51.take j).flatMap rdsR), Res.rows ((y_51.drop (j + 1)).flatMap rdsR), Res.row (.slice a_49 y_51.length c_50) 49 1 y_51.length (y_51.flatMap encR), bk b_45 60 [iv ((d.l.getD q o0).t.seq), .slice ((d.l.getD q o0).x.a0) ((d.l.getD q o0).t.cells.length) ((d.l.getD q o0).x.c0), .bool ((d.l.getD q o0).t.whole)], bk b_3 31 [.slice d.a d.l.length d.c, str d.jt, iv d.js]]) (fun w hw => hw.closeR (A := rdsR (y_51.getD j r0)) [1] rfl) <| ju (L' := [Res.rows (y_51.flatMap rdsR), rC qa qc q_, Res.row (.slice a_49 y_51.length c_50) 49 1 y_51.length (y_51.flatMap encR), bk b_45 60 [iv ((d.l.getD q o0).t.seq), .slice ((d.l.getD q o0).x.a0) ((d.l.getD q o0).t.cells.length) ((d.l.getD q o0).x.c0), .bool ((d.l.getD q o0).t.whole)], bk b_3 31 [.slice d.a d.l.length d.c, str d.jt, iv d.js]]) (fun w hw => hw.joinR [2, 0, 1] rfl (flatMap_at r0 hlt)) <| kB [1, 1, 0, 0, 0] (A := [rC qa qc q_, Res.row (.slice a_49 y_51.length c_50) 49 1 y_51.length (y_51.flatMap encR), Res.rows (y_51.flatMap rdsR), bk b_45 60 [iv ((d.l.getD q o0).t.seq), .slice ((d.l.getD q o0).x.a0) ((d.l.getD q o0).t.cells.length) ((d.l.getD q o0).x.c0), .bool ((d.l.getD q o0).t.whole)], bk b_3 31 [.slice d.a d.l.length d.c, str d.jt, iv d.js]]) rfl ?_
      refine jq (y_51.length - (j + 1)) (by omega) ⟨j + 1, qa, qc, q_, by omega, by omega, (by rw [applyAll_step hlt] at hR; rw [show (y_51.getD j r0).t.cells.drop i = [] from List.drop_of_length_le (by omega)] at hR2; rw [← hR2] at hR; exact hR), he_67, he_68, he_69, he_70, he_71, he_72, he_73, rfl, rfl, rfl⟩
    refine jR (cB (dF h_64)) <| jx <| jb <| jb <| jy <| jB <| jC <| kJ [rC sa sc s_, Res.row (.slice a_49 y_51.length c_50) 49 1 y_51.length (y_51.flatMap encR), Res.rows (y_51.flatMap rdsR), bk b_45 60 [iv ((d.l.getD q o0).t.seq), .slice ((d.l.getD q o0).x.a0) ((d.l.getD q o0).t.cells.length) ((d.l.getD q o0).x.c0), .bool ((d.l.getD q o0).t.whole)], bk b_3 31 [.slice d.a d.l.length d.c, str d.jt, iv d.js]] 0 mixed (by simp) <| jL 0 rfl (jD (v := .slice sa s_.length sc) he_60) <| jL 1 rfl (jQ fo60_0 he_58) ?_
    refine jL 3 rfl (jD (v := .slice a_49 y_51.length c_50) he_59) <| jL 4 rfl (jr kx rfl) <| jL 6 rfl (jG (v := .slice sa s_.length sc) rfl) <| jj (i := 2) ?_
    refine JX.lt rfl (jP (jZ 3 (v := iv ((d.l.getD q o0).t.seq)) rfl rfl kq rfl)) ?_
    rintro _ _ ⟨rfl, rfl⟩
    refine jL 5 rfl (jc (c := ((d.l.getD q o0).t.seq) + ((y_51.length : Nat) : Int)) rfl rfl (wr (by omega))) <| jL 7 rfl (jG (v := iv (((d.l.getD q o0).t.seq) + ((y_51.length : Nat) : Int))) rfl) <| kI (by kernel_rfl) <| jB <| jN <| kC (.inl rfl) rfl (jJ (v := .slice sa s_.length sc) rfl) (jJ (v := iv (((d.l.getD q o0).t.seq) + ((y_51.length : Nat) : Int))) rfl) (tS 1 _) ?_
    have hf : s_ = applyAll (d.l.getD q o0).t.cells (y_51.map cellsR) := by rw [show (y_51.map cellsR).drop j = [] from List.drop_of_length_le (by rw [List.length_map]; omega)] at hR; exact hR
    have he := recov_eq h_4 hbc hmost hys hf (List.length_map _)
    exact ⟨sa, sc, by rw [he] <;> rfl, by rw [he] <;> rfl⟩
  refine jW (cB (cN h_4)) <| jC <| jF <| jA (jG (v := .slice none 0 0) rfl) <| jA (jG (v := iv 0) rfl) <| jE <| jB <| jN <| jX <| JQ.nilRow 48 2 ?_
  refine kC (.inl rfl) rfl (jJ (v := .slice none 0 0) rfl) (jJ (v := iv 0) rfl) (tS 1 _) ?_
  have he := recov_not h_4
  exact ⟨none, 0, by rw [he] <;> rfl, by rw [he] <;> rfl⟩

set_option maxRecDepth 4000 in
set_option maxHeartbeats 1000000 in
theorem Y_sRecov (d : DX) (hz : d.dat.okz) (hl : d.dat.lim 1000000000) :
    Ct Tryz.prog 43 [.agg #[.slice d.a d.l.length d.c, str d.jt, .int .i64 d.js]] [] (fun w => SeesA w (rdsD d)) (fun v A' => ∃ a c, v = .tuple #[.slice a d.dat.recov.1.length c, .int .i64 d.dat.recov.2] ∧ A' = [.row (.slice a d.dat.recov.1.length c) 48 2 d.dat.recov.1.length (d.dat.recov.1.flatMap encC)]) := by
  refine Ct.intro Tryz.func43 rfl Tryz.ntmps43 (lb rfl) fun w0 hpre => ?_
  have hs_1 : Sees w0 (.slice d.a d.l.length d.c) 3 d.l.length (d.l.flatMap encO) := (hpre).head
  have hi_2 : SeesA w0 (d.l.flatMap rdsO) := (hpre).tail
  have hjt := hz.k2
  have hdl : d.l.length ≤ 1000000000 := by have := hl.l0; simpa only [DX.dat, List.length_map] using this
  refine jC <| jF ?_
  refine jH rfl (kG (cs := [.slice d.a d.l.length d.c, str d.jt, iv d.js]) rfl rfl) ?_
  rintro _ _ ⟨b_3, rfl, rfl⟩
  refine jA (jG (v := .slice none 0 0) rfl) <| jA (jG (v := iv 0) rfl) <| jE <| jB <| jC <| jC <| jF <| jK (jO 0 (vs := [.slice d.a d.l.length d.c, str d.jt, iv d.js]) rfl rfl ke kd rfl rfl) ?_
  refine jH rfl (jI [] Tryz.call42 rfl (Y_specDiskOk d hz (by omega)) rfl (fun w hw => hw.seeOutA hpre nMA)) ?_
  rintro _ _ ⟨_, ⟨rfl, rfl⟩, rfl⟩
  refine jA (jp rfl) <| jE <| jB ?_
  rcases Bool.eq_false_or_eq_true (diskOk d.dat) with h_4 | h_4
  · refine jR (cB (cN h_4)) <| jT <| jB <| jC ?_
    obtain ⟨q, hq, hql⟩ := diskOk_best h_4
    have hql : q < d.l.length := by simpa only [DX.dat, List.length_map] using hql
    have hjr := diskOk_jour h_4
    have hjr2 : ((d.jt.length : Nat) : Int) ≤ 20000 ∧ 0 ≤ d.js ∧ d.js ≤ ((d.jt.length : Nat) : Int) := by have h_ : jourOk d.jt d.js = true := hjr; simpa only [jourOk, within, Bool.and_eq_true, decide_eq_true_eq, and_assoc] using h_
    have hmost : (d.l.getD q o0).t.seq = mostOf d.dat := by rw [mostOf, hq, Int.toNat_natCast]; exact congrArg SD.seq getD_map'.symm
    have hmr := most_range h_4
    have hl2 := disk_two h_4
    have hbc : (d.l.getD q o0).t.cells = (d.dat.slots.getD (bestD d.dat).toNat o0.t).cells := by rw [hq, Int.toNat_natCast]; exact congrArg SD.cells getD_map'.symm
    have hsl : (d.l.getD q o0).t.cells.length ≤ 900 := by rw [hbc]; exact storeOk_len (best_ok h_4).2.2.2
    have hrc := recsOf_cells d.jt ((d.l.getD q o0).t.seq + 1)
    have hrle := recsOf_le d.jt ((d.l.getD q o0).t.seq + 1)
    refine kJ [bk b_3 31 [.slice d.a d.l.length d.c, str d.jt, iv d.js]] 7 mixed (by simp) <| jL 0 rfl (jQ fo31_0 rfl) <| jw 1 rfl (jZ 0 (v := .slice d.a d.l.length d.c) rfl rfl ks rfl) <| jw 2 rfl (jO 0 (vs := [.slice d.a d.l.length d.c, str d.jt, iv d.js]) rfl rfl ke kd rfl rfl) ?_
    refine JA.two (i := 3) (j := 6) (by kernel_rfl) ?_ ?_
    · refine jz rfl rfl (jI [] Tryz.call49 rfl (Y_sBestN d hz (by omega) q hq) rfl (fun w hw => hw.seeOutA hpre nMA)) ?_
      rintro _ _ ⟨_, ⟨rfl, rfl⟩, rfl⟩
      refine ⟨by simp, ?_⟩
      obtain ⟨hr_6, hr_6b, -⟩ := sees_some hs_1 (by omega)
      refine jL 4 rfl (jk (i := q) km kj hr_6 hr_6b rfl rfl (by omega)) ?_
      have hi_7 := SeesA.elem hi_2 o0 (show q < d.l.length by omega)
      have hs_8 := seesO hi_7
      refine jw 5 rfl (kX (vs := [iv ((d.l.getD q o0).t.seq), .slice ((d.l.getD q o0).x.a0) ((d.l.getD q o0).t.cells.length) ((d.l.getD q o0).x.c0), .bool ((d.l.getD q o0).t.whole)]) hs_1 nM rfl gB kj (flat_take encO_len o0 d.l q (by omega)) rfl (by decide)) <| jj (i := 6) ?_
      refine jz rfl rfl (jo (z := .agg #[iv 0, .slice none 0 0, .bool false]) (cs := [iv 0, .slice none 0 0, .bool false]) gD rfl) ?_
      rintro _ _ ⟨b_10, rfl, rfl⟩
      refine ⟨by simp, ?_⟩
      refine jj (i := 7) ?_
      refine JX.ls rfl (ja 0 (vs := [iv ((d.l.getD q o0).t.seq), .slice ((d.l.getD q o0).x.a0) ((d.l.getD q o0).t.cells.length) ((d.l.getD q o0).x.c0), .bool ((d.l.getD q o0).t.whole)]) (cs' := [iv ((d.l.getD q o0).t.seq), .slice ((d.l.getD q o0).x.a0) ((d.l.getD q o0).t.cells.length) ((d.l.getD q o0).x.c0), .bool ((d.l.getD q o0).t.whole)]) rfl rfl rfl rfl kj rfl rfl (lb rfl) rfl) ?_
      rintro _ _ rfl
      refine jB <| jC <| jF ?_
      refine jH rfl (kH (ps := []) (cur := #[]) kf kh kw rfl (by kernel_rfl) (by decide) (by decide)) ?_
      rintro _ _ ⟨a_11, rfl, rfl⟩
      refine jA (jQ fo60_1 rfl) <| jK (jZ 1 (v := .slice ((d.l.getD q o0).x.a0) ((d.l.getD q o0).t.cells.length) ((d.l.getD q o0).x.c0)) rfl rfl kz rfl) ?_
      refine jH rfl (kU 0 (q := ((d.l.getD q o0).t.cells.length)) (news := ((d.l.getD q o0).t.cells).flatMap encC) (n' := ((d.l.getD q o0).t.cells).length) (cs' := ((d.l.getD q o0).t.cells).flatMap encC) rfl kf kf ky rfl (by' := 32) rfl rfl rfl rfl rfl (fun w hw => Src.sees (hw.seeOut_ hs_8 nM) (oneC _)) (by (try simp only [LE]); omega) (by (try simp only [LE]); omega) (by (try simp only [List.length_take, List.length_drop]); first | rfl | omega) rfl) ?_
      rintro _ _ ⟨a_12, c_13, rfl, rfl⟩
      refine jA (jG (v := .slice a_12 (((d.l.getD q o0).t.cells).length) c_13) rfl) <| jE <| jB <| jC <| jF <| jA (jQ fo31_1 rfl) <| jA (jQ fo29_0 rfl) <| jK (jZ 2 (v := str d.jt) rfl rfl ki rfl) <| jA (jQ fo60_0 rfl) <| jK (jZ 1 (v := iv ((d.l.getD q o0).t.seq)) rfl rfl kq rfl) ?_
      refine jA (jc (c := ((d.l.getD q o0).t.seq) + 1) rfl rfl (wr (by omega))) ?_
      refine jH rfl (jI [] Tryz.call69 rfl (Y_sRecs d.jt (((d.l.getD q o0).t.seq) + 1) (by omega)) rfl (fun _ _ => trivial)) ?_
      rintro _ _ ⟨_, ⟨a_14, c_15, y_16, hy_17, rfl, rfl⟩, rfl⟩
      refine jA (jD (v := .tuple #[.slice a_14 y_16.length c_15, iv (((recsOf d.jt (((d.l.getD q o0).t.seq) + 1)).2 : Nat) : Int)]) rfl) <| jA (je (v := .slice a_14 y_16.length c_15) rfl rfl) <| jA (je (v := iv (((recsOf d.jt (((d.l.getD q o0).t.seq) + 1)).2 : Nat) : Int)) rfl rfl) <| jA (jG (v := .slice a_14 y_16.length c_15) rfl) <| jA (jG (v := iv (((recsOf d.jt (((d.l.getD q o0).t.seq) + 1)).2 : Nat) : Int)) rfl) <| jE <| jB <| jC <| jC ?_
      have hys : y_16.map cellsR = (recsOf d.jt ((d.l.getD q o0).t.seq + 1)).1 := hy_17
      have hyc : sumC (y_16.map cellsR) ≤ 20000 := by rw [hys]; omega
      have hyn : y_16.length ≤ 20000 := by have h_ := congrArg List.length hys; rw [List.length_map] at h_; have h2_ := recsOf_count d.jt ((d.l.getD q o0).t.seq + 1); omega
      refine jF <| jA (jG (v := iv 0) rfl) <| jE <| jB <| jf <| kT (L' := [Res.row (.slice a_14 y_16.length c_15) 49 1 y_16.length (y_16.flatMap encR), Res.rows (y_16.flatMap rdsR), rC a_12 c_13 ((d.l.getD q o0).t.cells), bk b_10 60 [iv ((d.l.getD q o0).t.seq), .slice ((d.l.getD q o0).x.a0) ((d.l.getD q o0).t.cells.length) ((d.l.getD q o0).x.c0), .bool ((d.l.getD q o0).t.whole)], bk b_3 31 [.slice d.a d.l.length d.c, str d.jt, iv d.js]]) (fun w hw => hw.headR (r := ⟨.slice a_14 y_16.length c_15, 49, 1, y_16.length, y_16.flatMap encR⟩) (A := y_16.flatMap rdsR) 0 rfl) <| kT (L' := [rC a_12 c_13 ((d.l.getD q o0).t.cells), Res.row (.slice a_14 y_16.length c_15) 49 1 y_16.length (y_16.flatMap encR), Res.rows (y_16.flatMap rdsR), bk b_10 60 [iv ((d.l.getD q o0).t.seq), .slice ((d.l.getD q o0).x.a0) ((d.l.getD q o0).t.cells.length) ((d.l.getD q o0).x.c0), .bool ((d.l.getD q o0).t.whole)], bk b_3 31 [.slice d.a d.l.length d.c, str d.jt, iv d.js]]) (fun w hw => hw.perm (pick_perm [2] (A := [rC a_12 c_13 ((d.l.getD q o0).t.cells)]) (F := [Res.row (.slice a_14 y_16.length c_15) 49 1 y_16.length (y_16.flatMap encR), Res.rows (y_16.flatMap rdsR), bk b_10 60 [iv ((d.l.getD q o0).t.seq), .slice ((d.l.getD q o0).x.a0) ((d.l.getD q o0).t.cells.length) ((d.l.getD q o0).x.c0), .bool ((d.l.getD q o0).t.whole)], bk b_3 31 [.slice d.a d.l.length d.c, str d.jt, iv d.js]]) rfl).symm) <| kD (fun k_ e_ L_ => ∃ j : Nat, ∃ sa : Option Addr, ∃ sc : Nat, ∃ s_ : List Cell, (j ≤ y_16.length) ∧ (s_.length + sumC ((y_16.map cellsR).drop j) ≤ 30000) ∧ (applyAll s_ ((y_16.map cellsR).drop j) = applyAll (d.l.getD q o0).t.cells (y_16.map cellsR)) ∧ e_ 2 = .slice none 0 0 ∧ e_ 3 = iv 0 ∧ e_ 4 = .pointer (some ⟨b_10, 0, none⟩) ∧ e_ 5 = .slice sa s_.length sc ∧ e_ 6 = .slice a_14 y_16.length c_15 ∧ e_ 8 = nv j ∧ L_ = [rC sa sc s_, Res.row (.slice a_14 y_16.length c_15) 49 1 y_16.length (y_16.flatMap encR), Res.rows (y_16.flatMap rdsR), bk b_10 60 [iv ((d.l.getD q o0).t.seq), .slice ((d.l.getD q o0).x.a0) ((d.l.getD q o0).t.cells.length) ((d.l.getD q o0).x.c0), .bool ((d.l.getD q o0).t.whole)], bk b_3 31 [.slice d.a d.l.length d.c, str d.jt, iv d.js]] ∧ k_ = y_16.length - j) _ ⟨0, a_12, c_13, (d.l.getD q o0).t.cells, by omega, (by rw [List.drop_zero]; omega), rfl, rfl, rfl, rfl, rfl, rfl, rfl, rfl, rfl⟩ ?_
      rintro _ e_18 _ ⟨j, sa, sc, s_, hj, hb, hR, he_19, he_20, he_21, he_22, he_23, he_24, rfl, rfl⟩
      refine jC <| jC <| jF <| jA (jD (v := nv j) he_24) <| jA (jD (v := .slice a_14 y_16.length c_15) he_23) <| jA (jr kx rfl) <| jA (jl rfl rfl) <| jE <| jB ?_
      by_cases h_25 : ((j : Nat) : Int) < ((y_16.length : Nat) : Int)
      · have hlt : j < y_16.length := by omega
        have hsc := sumC_step hlt
        refine jW (cB (dT h_25)) <| jT <| jB <| jC <| jf <| jF <| jA (jD (v := .slice sa s_.length sc) he_22) <| jA (jD (v := .slice a_14 y_16.length c_15) he_23) <| jA (jD (v := nv j) he_24) ?_
        refine kN fun hst => ?_
        obtain ⟨hr_26, hr_26b, -⟩ := row_some 1 rfl (by omega) hst
        refine jA (jk (i := j) kx gM hr_26 hr_26b rfl rfl (by omega)) <| jK (ka 1 (v := .slice ((y_16.getD j r0).x.a0) ((y_16.getD j r0).t.cells.length) ((y_16.getD j r0).x.c0)) rfl rfl kz (flat_at encR_len r0 y_16 j 0 (by omega) (by decide))) ?_
        refine jH rfl (jI [] Tryz.call96 rfl (Y_sApply sa (y_16.getD j r0).x.a0 sc ((y_16.getD j r0).x.c0) s_ ((y_16.getD j r0).t.cells) (by omega) (by omega) (fun i hi => (rec_key hys hlt hi).1)) rfl (fun w hw => ⟨hw.see (i := 0) rfl, (seesR ((hw.seeRows 2 rfl).elem r0 (by omega)))⟩)) ?_
        rintro _ _ ⟨_, ⟨a_27, c_28, rfl, rfl⟩, rfl⟩
        have hal_29 := applyR_len ((y_16.getD j r0).t.cells) s_
        refine jA (jG (v := .slice a_27 ((applyR s_ ((y_16.getD j r0).t.cells)).length) c_28) rfl) <| jE <| jm <| jB <| jF <| jA (jD (v := nv j) he_24) <| jA (jc (c := ((j + 1 : Nat) : Int)) rfl rfl (wr (by omega))) <| jA (jG (v := iv ((j + 1 : Nat) : Int)) rfl) <| jE <| kB [0, 1, 1, 1, 1] (A := [rC a_27 c_28 (applyR s_ ((y_16.getD j r0).t.cells)), Res.row (.slice a_14 y_16.length c_15) 49 1 y_16.length (y_16.flatMap encR), Res.rows (y_16.flatMap rdsR), bk b_10 60 [iv ((d.l.getD q o0).t.seq), .slice ((d.l.getD q o0).x.a0) ((d.l.getD q o0).t.cells.length) ((d.l.getD q o0).x.c0), .bool ((d.l.getD q o0).t.whole)], bk b_3 31 [.slice d.a d.l.length d.c, str d.jt, iv d.js]]) rfl ?_
        refine jq (y_16.length - (j + 1)) (by omega) ⟨j + 1, a_27, c_28, (applyR s_ ((y_16.getD j r0).t.cells)), by omega, by omega, (by rw [applyAll_step hlt] at hR; exact hR), he_19, he_20, he_21, rfl, he_23, rfl, rfl, rfl⟩
      refine jR (cB (dF h_25)) <| jx <| jb <| jb <| jy <| jB <| jC <| kJ [rC sa sc s_, Res.row (.slice a_14 y_16.length c_15) 49 1 y_16.length (y_16.flatMap encR), Res.rows (y_16.flatMap rdsR), bk b_10 60 [iv ((d.l.getD q o0).t.seq), .slice ((d.l.getD q o0).x.a0) ((d.l.getD q o0).t.cells.length) ((d.l.getD q o0).x.c0), .bool ((d.l.getD q o0).t.whole)], bk b_3 31 [.slice d.a d.l.length d.c, str d.jt, iv d.js]] 0 mixed (by simp) <| jL 0 rfl (jD (v := .slice sa s_.length sc) he_22) <| jL 1 rfl (jQ fo60_0 he_21) ?_
      refine jL 3 rfl (jD (v := .slice a_14 y_16.length c_15) he_23) <| jL 4 rfl (jr kx rfl) <| jL 6 rfl (jG (v := .slice sa s_.length sc) rfl) <| jj (i := 2) ?_
      refine JX.lt rfl (jP (jZ 3 (v := iv ((d.l.getD q o0).t.seq)) rfl rfl kq rfl)) ?_
      rintro _ _ ⟨rfl, rfl⟩
      refine jL 5 rfl (jc (c := ((d.l.getD q o0).t.seq) + ((y_16.length : Nat) : Int)) rfl rfl (wr (by omega))) <| jL 7 rfl (jG (v := iv (((d.l.getD q o0).t.seq) + ((y_16.length : Nat) : Int))) rfl) <| kI (by kernel_rfl) <| jB <| jN <| kC (.inl rfl) rfl (jJ (v := .slice sa s_.length sc) rfl) (jJ (v := iv (((d.l.getD q o0).t.seq) + ((y_16.length : Nat) : Int))) rfl) (tS 1 _) ?_
      have hf : s_ = applyAll (d.l.getD q o0).t.cells (y_16.map cellsR) := by rw [show (y_16.map cellsR).drop j = [] from List.drop_of_length_le (by rw [List.length_map]; omega)] at hR; exact hR
      have he := recov_eq h_4 hbc hmost hys hf (List.length_map _)
      exact ⟨sa, sc, by rw [he] <;> rfl, by rw [he] <;> rfl⟩
    refine jz rfl rfl (jo (z := .agg #[iv 0, .slice none 0 0, .bool false]) (cs := [iv 0, .slice none 0 0, .bool false]) gD rfl) ?_
    rintro _ _ ⟨b_30, rfl, rfl⟩
    refine ⟨by simp, ?_⟩
    refine jj (i := 3) ?_
    refine jz rfl rfl (jI [] Tryz.call49 rfl (Y_sBestN d hz (by omega) q hq) rfl (fun w hw => hw.seeOutA hpre nMA)) ?_
    rintro _ _ ⟨_, ⟨rfl, rfl⟩, rfl⟩
    refine ⟨by simp, ?_⟩
    obtain ⟨hr_31, hr_31b, -⟩ := sees_some hs_1 (by omega)
    refine jL 4 rfl (jk (i := q) km kj hr_31 hr_31b rfl rfl (by omega)) ?_
    have hi_32 := SeesA.elem hi_2 o0 (show q < d.l.length by omega)
    have hs_33 := seesO hi_32
    refine jw 5 rfl (kX (vs := [iv ((d.l.getD q o0).t.seq), .slice ((d.l.getD q o0).x.a0) ((d.l.getD q o0).t.cells.length) ((d.l.getD q o0).x.c0), .bool ((d.l.getD q o0).t.whole)]) hs_1 nM rfl gB kj (flat_take encO_len o0 d.l q (by omega)) rfl (by decide)) <| jj (i := 7) ?_
    refine JX.ls rfl (ja 0 (vs := [iv ((d.l.getD q o0).t.seq), .slice ((d.l.getD q o0).x.a0) ((d.l.getD q o0).t.cells.length) ((d.l.getD q o0).x.c0), .bool ((d.l.getD q o0).t.whole)]) (cs' := [iv ((d.l.getD q o0).t.seq), .slice ((d.l.getD q o0).x.a0) ((d.l.getD q o0).t.cells.length) ((d.l.getD q o0).x.c0), .bool ((d.l.getD q o0).t.whole)]) rfl rfl rfl rfl kj rfl rfl (lb rfl) rfl) ?_
    rintro _ _ rfl
    refine jB <| jC <| jF ?_
    refine jH rfl (kH (ps := []) (cur := #[]) kf kh kw rfl (by kernel_rfl) (by decide) (by decide)) ?_
    rintro _ _ ⟨a_34, rfl, rfl⟩
    refine jA (jQ fo60_1 rfl) <| jK (jZ 1 (v := .slice ((d.l.getD q o0).x.a0) ((d.l.getD q o0).t.cells.length) ((d.l.getD q o0).x.c0)) rfl rfl kz rfl) ?_
    refine jH rfl (kU 0 (q := ((d.l.getD q o0).t.cells.length)) (news := ((d.l.getD q o0).t.cells).flatMap encC) (n' := ((d.l.getD q o0).t.cells).length) (cs' := ((d.l.getD q o0).t.cells).flatMap encC) rfl kf kf ky rfl (by' := 32) rfl rfl rfl rfl rfl (fun w hw => Src.sees (hw.seeOut_ hs_33 nM) (oneC _)) (by (try simp only [LE]); omega) (by (try simp only [LE]); omega) (by (try simp only [List.length_take, List.length_drop]); first | rfl | omega) rfl) ?_
    rintro _ _ ⟨a_35, c_36, rfl, rfl⟩
    refine jA (jG (v := .slice a_35 (((d.l.getD q o0).t.cells).length) c_36) rfl) <| jE <| jB <| jC <| jF <| jA (jQ fo31_1 rfl) <| jA (jQ fo29_0 rfl) <| jK (jZ 2 (v := str d.jt) rfl rfl ki rfl) <| jA (jQ fo60_0 rfl) <| jK (jZ 1 (v := iv ((d.l.getD q o0).t.seq)) rfl rfl kq rfl) ?_
    refine jA (jc (c := ((d.l.getD q o0).t.seq) + 1) rfl rfl (wr (by omega))) ?_
    refine jH rfl (jI [] Tryz.call69 rfl (Y_sRecs d.jt (((d.l.getD q o0).t.seq) + 1) (by omega)) rfl (fun _ _ => trivial)) ?_
    rintro _ _ ⟨_, ⟨a_37, c_38, y_39, hy_40, rfl, rfl⟩, rfl⟩
    refine jA (jD (v := .tuple #[.slice a_37 y_39.length c_38, iv (((recsOf d.jt (((d.l.getD q o0).t.seq) + 1)).2 : Nat) : Int)]) rfl) <| jA (je (v := .slice a_37 y_39.length c_38) rfl rfl) <| jA (je (v := iv (((recsOf d.jt (((d.l.getD q o0).t.seq) + 1)).2 : Nat) : Int)) rfl rfl) <| jA (jG (v := .slice a_37 y_39.length c_38) rfl) <| jA (jG (v := iv (((recsOf d.jt (((d.l.getD q o0).t.seq) + 1)).2 : Nat) : Int)) rfl) <| jE <| jB <| jC <| jC ?_
    have hys : y_39.map cellsR = (recsOf d.jt ((d.l.getD q o0).t.seq + 1)).1 := hy_40
    have hyc : sumC (y_39.map cellsR) ≤ 20000 := by rw [hys]; omega
    have hyn : y_39.length ≤ 20000 := by have h_ := congrArg List.length hys; rw [List.length_map] at h_; have h2_ := recsOf_count d.jt ((d.l.getD q o0).t.seq + 1); omega
    refine jF <| jA (jG (v := iv 0) rfl) <| jE <| jB <| jf <| kT (L' := [Res.row (.slice a_37 y_39.length c_38) 49 1 y_39.length (y_39.flatMap encR), Res.rows (y_39.flatMap rdsR), rC a_35 c_36 ((d.l.getD q o0).t.cells), bk b_30 60 [iv ((d.l.getD q o0).t.seq), .slice ((d.l.getD q o0).x.a0) ((d.l.getD q o0).t.cells.length) ((d.l.getD q o0).x.c0), .bool ((d.l.getD q o0).t.whole)], bk b_3 31 [.slice d.a d.l.length d.c, str d.jt, iv d.js]]) (fun w hw => hw.headR (r := ⟨.slice a_37 y_39.length c_38, 49, 1, y_39.length, y_39.flatMap encR⟩) (A := y_39.flatMap rdsR) 0 rfl) <| kT (L' := [rC a_35 c_36 ((d.l.getD q o0).t.cells), Res.row (.slice a_37 y_39.length c_38) 49 1 y_39.length (y_39.flatMap encR), Res.rows (y_39.flatMap rdsR), bk b_30 60 [iv ((d.l.getD q o0).t.seq), .slice ((d.l.getD q o0).x.a0) ((d.l.getD q o0).t.cells.length) ((d.l.getD q o0).x.c0), .bool ((d.l.getD q o0).t.whole)], bk b_3 31 [.slice d.a d.l.length d.c, str d.jt, iv d.js]]) (fun w hw => hw.perm (pick_perm [2] (A := [rC a_35 c_36 ((d.l.getD q o0).t.cells)]) (F := [Res.row (.slice a_37 y_39.length c_38) 49 1 y_39.length (y_39.flatMap encR), Res.rows (y_39.flatMap rdsR), bk b_30 60 [iv ((d.l.getD q o0).t.seq), .slice ((d.l.getD q o0).x.a0) ((d.l.getD q o0).t.cells.length) ((d.l.getD q o0).x.c0), .bool ((d.l.getD q o0).t.whole)], bk b_3 31 [.slice d.a d.l.length d.c, str d.jt, iv d.js]]) rfl).symm) <| kD (fun k_ e_ L_ => ∃ j : Nat, ∃ sa : Option Addr, ∃ sc : Nat, ∃ s_ : List Cell, (j ≤ y_39.length) ∧ (s_.length + sumC ((y_39.map cellsR).drop j) ≤ 30000) ∧ (applyAll s_ ((y_39.map cellsR).drop j) = applyAll (d.l.getD q o0).t.cells (y_39.map cellsR)) ∧ e_ 2 = .slice none 0 0 ∧ e_ 3 = iv 0 ∧ e_ 4 = .pointer (some ⟨b_30, 0, none⟩) ∧ e_ 5 = .slice sa s_.length sc ∧ e_ 6 = .slice a_37 y_39.length c_38 ∧ e_ 8 = nv j ∧ L_ = [rC sa sc s_, Res.row (.slice a_37 y_39.length c_38) 49 1 y_39.length (y_39.flatMap encR), Res.rows (y_39.flatMap rdsR), bk b_30 60 [iv ((d.l.getD q o0).t.seq), .slice ((d.l.getD q o0).x.a0) ((d.l.getD q o0).t.cells.length) ((d.l.getD q o0).x.c0), .bool ((d.l.getD q o0).t.whole)], bk b_3 31 [.slice d.a d.l.length d.c, str d.jt, iv d.js]] ∧ k_ = y_39.length - j) _ ⟨0, a_35, c_36, (d.l.getD q o0).t.cells, by omega, (by rw [List.drop_zero]; omega), rfl, rfl, rfl, rfl, rfl, rfl, rfl, rfl, rfl⟩ ?_
    rintro _ e_41 _ ⟨j, sa, sc, s_, hj, hb, hR, he_42, he_43, he_44, he_45, he_46, he_47, rfl, rfl⟩
    refine jC <| jC <| jF <| jA (jD (v := nv j) he_47) <| jA (jD (v := .slice a_37 y_39.length c_38) he_46) <| jA (jr kx rfl) <| jA (jl rfl rfl) <| jE <| jB ?_
    by_cases h_48 : ((j : Nat) : Int) < ((y_39.length : Nat) : Int)
    · have hlt : j < y_39.length := by omega
      have hsc := sumC_step hlt
      refine jW (cB (dT h_48)) <| jT <| jB <| jC <| jf <| jF <| jA (jD (v := .slice sa s_.length sc) he_45) <| jA (jD (v := .slice a_37 y_39.length c_38) he_46) <| jA (jD (v := nv j) he_47) ?_
      refine kN fun hst => ?_
      obtain ⟨hr_49, hr_49b, -⟩ := row_some 1 rfl (by omega) hst
      refine jA (jk (i := j) kx gM hr_49 hr_49b rfl rfl (by omega)) <| jK (ka 1 (v := .slice ((y_39.getD j r0).x.a0) ((y_39.getD j r0).t.cells.length) ((y_39.getD j r0).x.c0)) rfl rfl kz (flat_at encR_len r0 y_39 j 0 (by omega) (by decide))) ?_
      refine jH rfl (jI [] Tryz.call96 rfl (Y_sApply sa (y_39.getD j r0).x.a0 sc ((y_39.getD j r0).x.c0) s_ ((y_39.getD j r0).t.cells) (by omega) (by omega) (fun i hi => (rec_key hys hlt hi).1)) rfl (fun w hw => ⟨hw.see (i := 0) rfl, (seesR ((hw.seeRows 2 rfl).elem r0 (by omega)))⟩)) ?_
      rintro _ _ ⟨_, ⟨a_50, c_51, rfl, rfl⟩, rfl⟩
      have hal_52 := applyR_len ((y_39.getD j r0).t.cells) s_
      refine jA (jG (v := .slice a_50 ((applyR s_ ((y_39.getD j r0).t.cells)).length) c_51) rfl) <| jE <| jm <| jB <| jF <| jA (jD (v := nv j) he_47) <| jA (jc (c := ((j + 1 : Nat) : Int)) rfl rfl (wr (by omega))) <| jA (jG (v := iv ((j + 1 : Nat) : Int)) rfl) <| jE <| kB [0, 1, 1, 1, 1] (A := [rC a_50 c_51 (applyR s_ ((y_39.getD j r0).t.cells)), Res.row (.slice a_37 y_39.length c_38) 49 1 y_39.length (y_39.flatMap encR), Res.rows (y_39.flatMap rdsR), bk b_30 60 [iv ((d.l.getD q o0).t.seq), .slice ((d.l.getD q o0).x.a0) ((d.l.getD q o0).t.cells.length) ((d.l.getD q o0).x.c0), .bool ((d.l.getD q o0).t.whole)], bk b_3 31 [.slice d.a d.l.length d.c, str d.jt, iv d.js]]) rfl ?_
      refine jq (y_39.length - (j + 1)) (by omega) ⟨j + 1, a_50, c_51, (applyR s_ ((y_39.getD j r0).t.cells)), by omega, by omega, (by rw [applyAll_step hlt] at hR; exact hR), he_42, he_43, he_44, rfl, he_46, rfl, rfl, rfl⟩
    refine jR (cB (dF h_48)) <| jx <| jb <| jb <| jy <| jB <| jC <| kJ [rC sa sc s_, Res.row (.slice a_37 y_39.length c_38) 49 1 y_39.length (y_39.flatMap encR), Res.rows (y_39.flatMap rdsR), bk b_30 60 [iv ((d.l.getD q o0).t.seq), .slice ((d.l.getD q o0).x.a0) ((d.l.getD q o0).t.cells.length) ((d.l.getD q o0).x.c0), .bool ((d.l.getD q o0).t.whole)], bk b_3 31 [.slice d.a d.l.length d.c, str d.jt, iv d.js]] 0 mixed (by simp) <| jL 0 rfl (jD (v := .slice sa s_.length sc) he_45) <| jL 1 rfl (jQ fo60_0 he_44) ?_
    refine jL 3 rfl (jD (v := .slice a_37 y_39.length c_38) he_46) <| jL 4 rfl (jr kx rfl) <| jL 6 rfl (jG (v := .slice sa s_.length sc) rfl) <| jj (i := 2) ?_
    refine JX.lt rfl (jP (jZ 3 (v := iv ((d.l.getD q o0).t.seq)) rfl rfl kq rfl)) ?_
    rintro _ _ ⟨rfl, rfl⟩
    refine jL 5 rfl (jc (c := ((d.l.getD q o0).t.seq) + ((y_39.length : Nat) : Int)) rfl rfl (wr (by omega))) <| jL 7 rfl (jG (v := iv (((d.l.getD q o0).t.seq) + ((y_39.length : Nat) : Int))) rfl) <| kI (by kernel_rfl) <| jB <| jN <| kC (.inl rfl) rfl (jJ (v := .slice sa s_.length sc) rfl) (jJ (v := iv (((d.l.getD q o0).t.seq) + ((y_39.length : Nat) : Int))) rfl) (tS 1 _) ?_
    have hf : s_ = applyAll (d.l.getD q o0).t.cells (y_39.map cellsR) := by rw [show (y_39.map cellsR).drop j = [] from List.drop_of_length_le (by rw [List.length_map]; omega)] at hR; exact hR
    have he := recov_eq h_4 hbc hmost hys hf (List.length_map _)
    exact ⟨sa, sc, by rw [he] <;> rfl, by rw [he] <;> rfl⟩
  refine jW (cB (cN h_4)) <| jC <| jF ?_
  refine jH rfl (kH (ps := []) (cur := #[]) kf kh kw rfl (by kernel_rfl) (by decide) (by decide)) ?_
  rintro _ _ ⟨a_53, rfl, rfl⟩
  refine jA (jG (v := .slice a_53 0 0) rfl) <| jA (jG (v := iv 0) rfl) <| jE <| jB <| jN <| jX <| kC (.inl rfl) rfl (jJ (v := .slice a_53 0 0) rfl) (jJ (v := iv 0) rfl) (tS 1 _) ?_
  have he := recov_not h_4
  exact ⟨a_53, 0, by rw [he] <;> rfl, by rw [he] <;> rfl⟩

end Go.Proofs.YtjncpgcccgdeiaaGreatDoor

set_option linter.unusedSimpArgs false
set_option linter.unusedVariables false
set_option linter.unnecessarySimpa false
namespace Go.Proofs.YtjncpgcccgdeiaaGreatDoor
open Go Go.RowKit
section
variable {P : Program} {n : Nat} {e : Env} {d : Option Tmp} {ty : TypeId} {pos : String} {aft : Array Edge} {gd : Option (Nat × Bool)}
theorem PO.fieldK {x : Operand} {t k : TypeId} {fs : Array Field} {f : Field} {i : Nat} {cs : Array Value} {vs : List Value} (ht : P.underlying t = some (.struct fs)) (hf : fs[i]? = some f) (hx : rd n e x = .agg cs) (ha : ∀ w, (isAgg f.type).run P w = .ok true w) (hs : ∀ w, (sizeOf f.type).run P w = .ok k w)
    (hc : cs.extract f.offset (f.offset + k) = vs.toArray) : PO P n e ⟨d, .field t x i, ty, pos, aft, gd⟩ (.agg vs.toArray) := fun w => by
  simp [execOp, hx, Instr.field, run_underlying ht, hf, part, ha, hs, hc, asAgg]
end
attribute [local irreducible] JL JC JQ JO LO PO JA JX Ct

set_option maxRecDepth 4000 in
set_option maxHeartbeats 1000000 in
theorem Y_iFoldB (d : DX) (hz : d.dat.okz) (hl : d.dat.lim 1000000000) :
    Ct Tryz.prog 21 [.agg #[.slice d.a d.l.length d.c, str d.jt, .int .i64 d.js]] [] (fun w => SeesA w (rdsD d) ∧ HexOk w) (fun v A' => ∃ y : DX, y.dat = d.dat.foldB.1 ∧ v = .tuple #[.agg #[.slice y.a y.l.length y.c, str y.jt, .int .i64 y.js], .bool d.dat.foldB.2] ∧ A' = [.rows (rdsD y)]) := by
  refine Ct.introL Tryz.func21 rfl Tryz.ntmps21 (lb rfl) fun w0 hpre hlow => ?_
  have hs_1 : Sees w0 (.slice d.a d.l.length d.c) 3 d.l.length (d.l.flatMap encO) := (hpre.1).head
  have hi_2 : SeesA w0 (d.l.flatMap rdsO) := (hpre.1).tail
  have hjt := hz.k2
  have hdl : d.l.length ≤ 1000000000 := by have := hl.l0; simpa only [DX.dat, List.length_map] using this
  refine jC <| jF ?_
  refine jH rfl (kG (cs := [.slice d.a d.l.length d.c, str d.jt, iv d.js]) rfl rfl) ?_
  rintro _ _ ⟨b_3, rfl, rfl⟩
  refine jH rfl (jo (z := .agg #[.slice none 0 0, str [], iv 0]) (cs := [.slice none 0 0, str [], iv 0]) ko rfl) ?_
  rintro _ _ ⟨b_4, rfl, rfl⟩
  refine jA (jG (v := .bool false) rfl) <| jE <| jB <| jC <| jF <| jK (jO 1 (vs := [.slice d.a d.l.length d.c, str d.jt, iv d.js]) rfl rfl ke kd rfl rfl) ?_
  refine jH rfl (jI [] Tryz.call62 rfl (Z_implDiskclone d hl) rfl (fun w hw => hw.seeOutA hpre.1 nMA)) ?_
  rintro _ _ ⟨_, ⟨y_5, hy_6, rfl, rfl⟩, rfl⟩
  refine jH rfl (jo (z := .agg #[.slice none 0 0, str [], iv 0]) (cs := [.slice none 0 0, str [], iv 0]) ko rfl) ?_
  rintro _ _ ⟨b_7, rfl, rfl⟩
  refine jH rfl (ja 0 (vs := [.slice y_5.a y_5.l.length y_5.c, str y_5.jt, iv y_5.js]) (cs' := [.slice y_5.a y_5.l.length y_5.c, str y_5.jt, iv y_5.js]) rfl rfl rfl rfl kd rfl rfl (lb rfl) rfl) ?_
  rintro _ _ rfl
  refine jE <| jB <| jC <| jC <| jF <| jK (jO 3 (vs := [.slice d.a d.l.length d.c, str d.jt, iv d.js]) rfl rfl ke kd rfl rfl) ?_
  refine jH rfl (jI [] Tryz.call47 rfl (Y_implDiskOk d hz (by omega)) rfl (fun w hw => hw.seeOutA hpre.1 nMA)) ?_
  rintro _ _ ⟨_, ⟨rfl, rfl⟩, rfl⟩
  refine jA (jp rfl) <| jE <| jB ?_
  rcases Bool.eq_false_or_eq_true (diskOk d.dat) with h_8 | h_8
  · obtain ⟨q, hq, hql⟩ := diskOk_best h_8
    have hql : q < d.l.length := by simpa only [DX.dat, List.length_map] using hql
    have hjr := diskOk_jour h_8
    have hjr2 : ((d.jt.length : Nat) : Int) ≤ 20000 ∧ 0 ≤ d.js ∧ d.js ≤ ((d.jt.length : Nat) : Int) := by have h_ : jourOk d.jt d.js = true := hjr; simpa only [jourOk, within, Bool.and_eq_true, decide_eq_true_eq, and_assoc] using h_
    have hmost : (d.l.getD q o0).t.seq = mostOf d.dat := by rw [mostOf, hq, Int.toNat_natCast]; exact congrArg SD.seq getD_map'.symm
    have hmr := most_range h_8
    have hl2 := disk_two h_8
    refine jR (cB (cN h_8)) <| jT <| jB <| jC <| jF <| jK (jO 3 (vs := [.slice d.a d.l.length d.c, str d.jt, iv d.js]) rfl rfl ke kd rfl rfl) ?_
    refine jH rfl (jI [] Tryz.call48 rfl (Y_iBestN d hz (by omega) q hq) rfl (fun w hw => hw.seeOutA hpre.1 nMA)) ?_
    rintro _ _ ⟨_, ⟨rfl, rfl⟩, rfl⟩
    refine jA (jG (v := nv q) rfl) <| jE <| jB <| jC <| jF <| jK (jO 3 (vs := [.slice d.a d.l.length d.c, str d.jt, iv d.js]) rfl rfl ke kd rfl rfl) ?_
    refine jH rfl (jI [] Tryz.call33 rfl (Y_iRecov d hz hl) rfl (fun w hw => ⟨hw.seeOutA hpre.1 nMA, hw.hex hlow hpre.2⟩)) ?_
    rintro _ _ ⟨_, ⟨a_9, c_10, rfl, rfl⟩, rfl⟩
    refine jA (jD (v := .tuple #[.slice a_9 d.dat.recov.1.length c_10, iv d.dat.recov.2]) rfl) <| jA (je (v := .slice a_9 d.dat.recov.1.length c_10) rfl rfl) <| jA (je (v := iv d.dat.recov.2) rfl rfl) <| jA (jG (v := .slice a_9 d.dat.recov.1.length c_10) rfl) <| jA (jG (v := iv d.dat.recov.2) rfl) <| jE <| jB <| jC <| jC <| jF ?_
    refine jA (jD (v := iv d.dat.recov.2) rfl) <| jA (kR rfl rfl) <| jA (jD (v := .bool (decide (99999 < d.dat.recov.2))) rfl) ?_
    by_cases h_11 : 99999 < d.dat.recov.2
    · refine jS (b := true) rfl rfl rfl (cB (dT h_11)) <| jS (b := true) rfl rfl rfl (cB (dT h_11)) <| jS (b := true) rfl rfl rfl (cB (dT h_11)) <| jS (b := true) rfl rfl rfl (cB (dT h_11)) <| jS (b := true) rfl rfl rfl (cB (dT h_11)) <| jS (b := true) rfl rfl rfl (cB (dT h_11)) <| jS (b := true) rfl rfl rfl (cB (dT h_11)) <| jS (b := true) rfl rfl rfl (cB (dT h_11)) <| jA (jh (v := .bool true) (cB (dT h_11)) rfl) <| jE ?_
      refine jB <| jW (cB rfl) <| jC <| jF <| jK (jO 1 (vs := [.slice y_5.a y_5.l.length y_5.c, str y_5.jt, iv y_5.js]) rfl rfl ke kd rfl rfl) ?_
      refine jH rfl (ja 3 (vs := [.slice y_5.a y_5.l.length y_5.c, str y_5.jt, iv y_5.js]) (cs' := [.slice y_5.a y_5.l.length y_5.c, str y_5.jt, iv y_5.js]) rfl rfl rfl rfl kd rfl rfl (lb rfl) rfl) ?_
      rintro _ _ rfl
      refine jA (jG (v := .bool false) rfl) <| jE <| jB <| jN <| jX <| kM (pick_perm [2] (A := [Res.rows (rdsD y_5)]) (F := [rC a_9 c_10 d.dat.recov.1, bk b_7 31 [.slice y_5.a y_5.l.length y_5.c, str y_5.jt, iv y_5.js], bk b_4 31 [.slice y_5.a y_5.l.length y_5.c, str y_5.jt, iv y_5.js], bk b_3 31 [.slice d.a d.l.length d.c, str d.jt, iv d.js]]) rfl).symm <| kC (.inl rfl) rfl (kA (jO 3 (vs := [.slice y_5.a y_5.l.length y_5.c, str y_5.jt, iv y_5.js]) rfl rfl ke kd rfl rfl) ⟨_, rfl⟩) (jJ (v := .bool false) rfl) (tS 1 _) ?_
      have he := foldB_no (d := d.dat) (by rintro ⟨h_1, h_2⟩; first | omega | simp_all)
      exact ⟨y_5, (hy_6).trans (congrArg Prod.fst he).symm, by rw [he], rfl⟩
    refine jM rfl rfl rfl (cB (dF h_11)) (jP (jU (jD (v := iv d.dat.recov.2) rfl))) ?_
    rintro _ _ ⟨rfl, rfl⟩
    refine jM rfl rfl rfl (cB (dF h_11)) (jP (jU (jQ fo31_0 rfl))) ?_
    rintro _ _ ⟨rfl, rfl⟩
    refine jM rfl rfl rfl (cB (dF h_11)) (jP (jZ 4 (v := .slice d.a d.l.length d.c) rfl rfl ks rfl)) ?_
    rintro _ _ ⟨rfl, rfl⟩
    refine jM rfl rfl rfl (cB (dF h_11)) (jP (jU (jD (v := nv q) rfl))) ?_
    rintro _ _ ⟨rfl, rfl⟩
    obtain ⟨hr_12, hr_12b, -⟩ := sees_some hs_1 (by omega)
    refine jM rfl rfl rfl (cB (dF h_11)) (jP (jU (jk (i := q) km kj hr_12 hr_12b rfl rfl (by omega)))) ?_
    rintro _ _ ⟨rfl, rfl⟩
    refine jM rfl rfl rfl (cB (dF h_11)) (jP (jU (kL fo60_0 hr_12 rfl))) ?_
    rintro _ _ ⟨rfl, rfl⟩
    have hi_13 := SeesA.elem hi_2 o0 (show q < d.l.length by omega)
    have hs_14 := seesO hi_13
    refine jM rfl rfl rfl (cB (dF h_11)) (jP (kY (v := iv ((d.l.getD q o0).t.seq)) hs_1 nM rfl kq (flat_at encO_len o0 d.l q 0 (by omega) (by decide)))) ?_
    rintro _ _ ⟨rfl, rfl⟩
    refine jM rfl rfl rfl (cB (dF h_11)) (jP (jU (kO rfl rfl))) ?_
    rintro _ _ ⟨rfl, rfl⟩
    refine jA (ji (v := .bool (decide (d.dat.recov.2 = ((d.l.getD q o0).t.seq)))) (cB (dF h_11)) rfl) <| jE <| jB ?_
    by_cases h_15 : d.dat.recov.2 = ((d.l.getD q o0).t.seq)
    · refine jW (cB (dT h_15)) <| jC <| jF <| jK (jO 1 (vs := [.slice y_5.a y_5.l.length y_5.c, str y_5.jt, iv y_5.js]) rfl rfl ke kd rfl rfl) ?_
      refine jH rfl (ja 3 (vs := [.slice y_5.a y_5.l.length y_5.c, str y_5.jt, iv y_5.js]) (cs' := [.slice y_5.a y_5.l.length y_5.c, str y_5.jt, iv y_5.js]) rfl rfl rfl rfl kd rfl rfl (lb rfl) rfl) ?_
      rintro _ _ rfl
      refine jA (jG (v := .bool false) rfl) <| jE <| jB <| jN <| jX <| kM (pick_perm [2] (A := [Res.rows (rdsD y_5)]) (F := [rC a_9 c_10 d.dat.recov.1, bk b_7 31 [.slice y_5.a y_5.l.length y_5.c, str y_5.jt, iv y_5.js], bk b_4 31 [.slice y_5.a y_5.l.length y_5.c, str y_5.jt, iv y_5.js], bk b_3 31 [.slice d.a d.l.length d.c, str d.jt, iv d.js]]) rfl).symm <| kC (.inl rfl) rfl (kA (jO 3 (vs := [.slice y_5.a y_5.l.length y_5.c, str y_5.jt, iv y_5.js]) rfl rfl ke kd rfl rfl) ⟨_, rfl⟩) (jJ (v := .bool false) rfl) (tS 1 _) ?_
      have he := foldB_no (d := d.dat) (by rintro ⟨h_1, h_2⟩; first | omega | simp_all)
      exact ⟨y_5, (hy_6).trans (congrArg Prod.fst he).symm, by rw [he], rfl⟩
    refine jR (cB (dF h_15)) <| jT <| jB <| jC <| jF <| jK (jO 4 (vs := [.slice d.a d.l.length d.c, str d.jt, iv d.js]) rfl rfl ke kd rfl rfl) ?_
    refine jH rfl (jI [] Tryz.call19 rfl (Y_iClean d hz hl) rfl (fun w hw => ⟨hw.seeOutA hpre.1 nMA, hw.hex hlow hpre.2⟩)) ?_
    rintro _ _ ⟨_, ⟨y_16, hy_17, rfl, rfl⟩, rfl⟩
    refine jH rfl (ja 2 (vs := [.slice y_16.a y_16.l.length y_16.c, str y_16.jt, iv y_16.js]) (cs' := [.slice y_16.a y_16.l.length y_16.c, str y_16.jt, iv y_16.js]) rfl rfl rfl rfl kd rfl rfl (lb rfl) rfl) ?_
    rintro _ _ rfl
    refine jE <| jB <| jC ?_
    have hzl : y_16.l.length = 2 := by have e_ := congrArg (fun q : DD => q.slots.length) hy_17; rw [clean_slots] at e_; simp only [DX.dat, List.length_map] at e_; omega
    refine kT (L' := [Res.row (.slice y_16.a y_16.l.length y_16.c) 60 3 y_16.l.length (y_16.l.flatMap encO), Res.rows (y_16.l.flatMap rdsO), rC a_9 c_10 d.dat.recov.1, bk b_7 31 [.slice y_16.a y_16.l.length y_16.c, str y_16.jt, iv y_16.js], Res.rows (rdsD y_5), bk b_4 31 [.slice none 0 0, str [], iv 0], bk b_3 31 [.slice d.a d.l.length d.c, str d.jt, iv d.js]]) (fun w hw => hw.headR (r := ⟨.slice y_16.a y_16.l.length y_16.c, 60, 3, y_16.l.length, y_16.l.flatMap encO⟩) (A := y_16.l.flatMap rdsO) 0 rfl) <| jF <| jA (jQ fo31_0 rfl) <| jK (jZ 3 (v := .slice y_16.a y_16.l.length y_16.c) rfl rfl ks rfl) <| jA (jD (v := nv q) rfl) <| jA (kZ (c := ((1 - q : Nat) : Int)) rfl rfl (wr (by omega))) <| jA (jD (v := iv d.dat.recov.2) rfl) <| jA (jD (v := .slice a_9 d.dat.recov.1.length c_10) rfl) <| jA (kW (ps := [(0, iv d.dat.recov.2), (1, .slice a_9 d.dat.recov.1.length c_10)]) (cs := [iv d.dat.recov.2, .slice a_9 d.dat.recov.1.length c_10, .bool false]) rfl (by kernel_rfl)) ?_
    refine kN fun hst => ?_
    obtain ⟨hr_18, hr_18b, -⟩ := row_some 0 rfl (by omega) hst
    refine jA (jk (i := (1 - q)) km kj hr_18 hr_18b rfl rfl (by omega)) ?_
    refine jH rfl (JO.storeR 0 (vs := [iv d.dat.recov.2, .slice a_9 d.dat.recov.1.length c_10, .bool false]) (cs' := (y_16.l.set (1 - q) (⟨⟨a_9, c_10⟩, ⟨d.dat.recov.2, d.dat.recov.1, false⟩⟩ : OX)).flatMap encO) rfl rfl rfl rfl kj rfl rfl (by decide) (by rw [flat_length encO_len]; omega) (flat_set encO_len y_16.l (1 - q) (⟨⟨a_9, c_10⟩, ⟨d.dat.recov.2, d.dat.recov.1, false⟩⟩ : OX) (by omega))) ?_
    rintro _ _ rfl
    refine jE <| jB <| jC <| jF <| jK (jO 3 (vs := [.slice y_16.a y_16.l.length y_16.c, str y_16.jt, iv y_16.js]) rfl rfl ke kd rfl rfl) ?_
    refine jH rfl (ja 5 (vs := [.slice y_16.a y_16.l.length y_16.c, str y_16.jt, iv y_16.js]) (cs' := [.slice y_16.a y_16.l.length y_16.c, str y_16.jt, iv y_16.js]) rfl rfl rfl rfl kd rfl rfl (lb rfl) rfl) ?_
    rintro _ _ rfl
    refine jA (jG (v := .bool true) rfl) <| jE <| jB <| jN ?_
    have hi1 : 1 - q < y_16.l.length := by omega
    refine ju (L' := [Res.rows ((y_16.l.take (1 - q)).flatMap rdsO), Res.rows (rdsO (y_16.l.getD (1 - q) o0)), Res.rows ((y_16.l.drop (1 - q + 1)).flatMap rdsO), Res.row (.slice y_16.a y_16.l.length y_16.c) 60 3 y_16.l.length ((y_16.l.set (1 - q) (⟨⟨a_9, c_10⟩, ⟨d.dat.recov.2, d.dat.recov.1, false⟩⟩ : OX)).flatMap encO), rC a_9 c_10 d.dat.recov.1, bk b_7 31 [.slice y_16.a y_16.l.length y_16.c, str y_16.jt, iv y_16.js], Res.rows (rdsD y_5), bk b_4 31 [.slice y_16.a y_16.l.length y_16.c, str y_16.jt, iv y_16.js], bk b_3 31 [.slice d.a d.l.length d.c, str d.jt, iv d.js]]) (fun w hw => hw.splitR 1 rfl (flatMap_at o0 hi1)) <| ju (L' := [Res.rows (rdsO (⟨⟨a_9, c_10⟩, ⟨d.dat.recov.2, d.dat.recov.1, false⟩⟩ : OX)), Res.rows ((y_16.l.take (1 - q)).flatMap rdsO), Res.rows (rdsO (y_16.l.getD (1 - q) o0)), Res.rows ((y_16.l.drop (1 - q + 1)).flatMap rdsO), Res.row (.slice y_16.a y_16.l.length y_16.c) 60 3 y_16.l.length ((y_16.l.set (1 - q) (⟨⟨a_9, c_10⟩, ⟨d.dat.recov.2, d.dat.recov.1, false⟩⟩ : OX)).flatMap encO), bk b_7 31 [.slice y_16.a y_16.l.length y_16.c, str y_16.jt, iv y_16.js], Res.rows (rdsD y_5), bk b_4 31 [.slice y_16.a y_16.l.length y_16.c, str y_16.jt, iv y_16.js], bk b_3 31 [.slice d.a d.l.length d.c, str d.jt, iv d.js]]) (fun w hw => hw.closeR (A := rdsO (⟨⟨a_9, c_10⟩, ⟨d.dat.recov.2, d.dat.recov.1, false⟩⟩ : OX)) [4] rfl) <| ju (L' := [Res.rows ((y_16.l.set (1 - q) (⟨⟨a_9, c_10⟩, ⟨d.dat.recov.2, d.dat.recov.1, false⟩⟩ : OX)).flatMap rdsO), Res.rows (rdsO (y_16.l.getD (1 - q) o0)), Res.row (.slice y_16.a y_16.l.length y_16.c) 60 3 y_16.l.length ((y_16.l.set (1 - q) (⟨⟨a_9, c_10⟩, ⟨d.dat.recov.2, d.dat.recov.1, false⟩⟩ : OX)).flatMap encO), bk b_7 31 [.slice y_16.a y_16.l.length y_16.c, str y_16.jt, iv y_16.js], Res.rows (rdsD y_5), bk b_4 31 [.slice y_16.a y_16.l.length y_16.c, str y_16.jt, iv y_16.js], bk b_3 31 [.slice d.a d.l.length d.c, str d.jt, iv d.js]]) (fun w hw => hw.joinR [1, 0, 1] rfl (flatMap_setAt hi1)) <| ju (L' := [Res.rows ((y_16.l.set (1 - q) (⟨⟨a_9, c_10⟩, ⟨d.dat.recov.2, d.dat.recov.1, false⟩⟩ : OX)).flatMap rdsO), Res.rows (rdsO (y_16.l.getD (1 - q) o0)), Res.row (.slice y_16.a ((y_16.l.set (1 - q) (⟨⟨a_9, c_10⟩, ⟨d.dat.recov.2, d.dat.recov.1, false⟩⟩ : OX)).length) y_16.c) 60 3 ((y_16.l.set (1 - q) (⟨⟨a_9, c_10⟩, ⟨d.dat.recov.2, d.dat.recov.1, false⟩⟩ : OX)).length) ((y_16.l.set (1 - q) (⟨⟨a_9, c_10⟩, ⟨d.dat.recov.2, d.dat.recov.1, false⟩⟩ : OX)).flatMap encO), bk b_7 31 [.slice y_16.a y_16.l.length y_16.c, str y_16.jt, iv y_16.js], Res.rows (rdsD y_5), bk b_4 31 [.slice y_16.a y_16.l.length y_16.c, str y_16.jt, iv y_16.js], bk b_3 31 [.slice d.a d.l.length d.c, str d.jt, iv d.js]]) (fun w hw => hw.eqL (by simp only [List.length_set])) <| ju (L' := [Res.rows (rdsOS y_16.a y_16.c (y_16.l.set (1 - q) (⟨⟨a_9, c_10⟩, ⟨d.dat.recov.2, d.dat.recov.1, false⟩⟩ : OX))), Res.rows (rdsO (y_16.l.getD (1 - q) o0)), bk b_7 31 [.slice y_16.a y_16.l.length y_16.c, str y_16.jt, iv y_16.js], Res.rows (rdsD y_5), bk b_4 31 [.slice y_16.a y_16.l.length y_16.c, str y_16.jt, iv y_16.js], bk b_3 31 [.slice d.a d.l.length d.c, str d.jt, iv d.js]]) (fun w hw => hw.consR (r := ⟨.slice y_16.a ((y_16.l.set (1 - q) (⟨⟨a_9, c_10⟩, ⟨d.dat.recov.2, d.dat.recov.1, false⟩⟩ : OX)).length) y_16.c, 60, 3, (y_16.l.set (1 - q) (⟨⟨a_9, c_10⟩, ⟨d.dat.recov.2, d.dat.recov.1, false⟩⟩ : OX)).length, (y_16.l.set (1 - q) (⟨⟨a_9, c_10⟩, ⟨d.dat.recov.2, d.dat.recov.1, false⟩⟩ : OX)).flatMap encO⟩) (A := (y_16.l.set (1 - q) (⟨⟨a_9, c_10⟩, ⟨d.dat.recov.2, d.dat.recov.1, false⟩⟩ : OX)).flatMap rdsO) [2, 0] rfl) <| kC (.inl rfl) rfl (kA (jO 4 (vs := [.slice y_16.a y_16.l.length y_16.c, str y_16.jt, iv y_16.js]) rfl rfl ke kd rfl rfl) ⟨_, rfl⟩) (jJ (v := .bool true) rfl) (tS 1 _) ?_
    have he := foldB_yes (d := d.dat) ⟨h_8, by omega, by omega⟩
    have hc := hy_17
    rw [DD.clean, if_pos h_8] at hc
    refine ⟨(⟨y_16.a, y_16.c, y_16.l.set (1 - q) (⟨⟨a_9, c_10⟩, ⟨d.dat.recov.2, d.dat.recov.1, false⟩⟩ : OX), y_16.jt, y_16.js⟩ : DX), ?_, by simp only [he, List.length_set], rfl⟩
    rw [he]
    exact fold_dat (congrArg DD.slots hc) (congrArg DD.jt hc) (congrArg DD.js hc) hq rfl
  refine jW (cB (cN h_8)) <| jC <| jF <| jK (jO 0 (vs := [.slice y_5.a y_5.l.length y_5.c, str y_5.jt, iv y_5.js]) rfl rfl ke kd rfl rfl) ?_
  refine jH rfl (ja 2 (vs := [.slice y_5.a y_5.l.length y_5.c, str y_5.jt, iv y_5.js]) (cs' := [.slice y_5.a y_5.l.length y_5.c, str y_5.jt, iv y_5.js]) rfl rfl rfl rfl kd rfl rfl (lb rfl) rfl) ?_
  rintro _ _ rfl
  refine jA (jG (v := .bool false) rfl) <| jE <| jB <| jN <| jX <| kM (pick_perm [1] (A := [Res.rows (rdsD y_5)]) (F := [bk b_7 31 [.slice y_5.a y_5.l.length y_5.c, str y_5.jt, iv y_5.js], bk b_4 31 [.slice y_5.a y_5.l.length y_5.c, str y_5.jt, iv y_5.js], bk b_3 31 [.slice d.a d.l.length d.c, str d.jt, iv d.js]]) rfl).symm <| kC (.inl rfl) rfl (kA (jO 2 (vs := [.slice y_5.a y_5.l.length y_5.c, str y_5.jt, iv y_5.js]) rfl rfl ke kd rfl rfl) ⟨_, rfl⟩) (jJ (v := .bool false) rfl) (tS 1 _) ?_
  have he := foldB_no (d := d.dat) (by rintro ⟨h_1, h_2⟩; first | omega | simp_all)
  exact ⟨y_5, (hy_6).trans (congrArg Prod.fst he).symm, by rw [he], rfl⟩

set_option maxRecDepth 4000 in
set_option maxHeartbeats 1000000 in
theorem Y_iFoldE (d : DX) (hz : d.dat.okz) (hl : d.dat.lim 1000000000) :
    Ct Tryz.prog 32 [.agg #[.slice d.a d.l.length d.c, str d.jt, .int .i64 d.js]] [] (fun w => SeesA w (rdsD d)) (fun v A' => ∃ y : DX, y.dat = d.dat.foldE.1 ∧ v = .tuple #[.agg #[.slice y.a y.l.length y.c, str y.jt, .int .i64 y.js], .bool d.dat.foldE.2] ∧ A' = [.rows (rdsD y)]) := by
  refine Ct.intro Tryz.func32 rfl Tryz.ntmps32 (lb rfl) fun w0 hpre => ?_
  have hs_1 : Sees w0 (.slice d.a d.l.length d.c) 3 d.l.length (d.l.flatMap encO) := (hpre).head
  have hi_2 : SeesA w0 (d.l.flatMap rdsO) := (hpre).tail
  have hjt := hz.k2
  have hdl : d.l.length ≤ 1000000000 := by have := hl.l0; simpa only [DX.dat, List.length_map] using this
  refine jC <| jF ?_
  refine jH rfl (kG (cs := [.slice d.a d.l.length d.c, str d.jt, iv d.js]) rfl rfl) ?_
  rintro _ _ ⟨b_3, rfl, rfl⟩
  refine jH rfl (jo (z := .agg #[.slice none 0 0, str [], iv 0]) (cs := [.slice none 0 0, str [], iv 0]) ko rfl) ?_
  rintro _ _ ⟨b_4, rfl, rfl⟩
  refine jA (jG (v := .bool false) rfl) <| jE <| jB <| jC <| jF <| jK (jO 1 (vs := [.slice d.a d.l.length d.c, str d.jt, iv d.js]) rfl rfl ke kd rfl rfl) ?_
  refine jH rfl (jI [] Tryz.call62 rfl (Z_implDiskclone d hl) rfl (fun w hw => hw.seeOutA hpre nMA)) ?_
  rintro _ _ ⟨_, ⟨y_5, hy_6, rfl, rfl⟩, rfl⟩
  refine jH rfl (jo (z := .agg #[.slice none 0 0, str [], iv 0]) (cs := [.slice none 0 0, str [], iv 0]) ko rfl) ?_
  rintro _ _ ⟨b_7, rfl, rfl⟩
  refine jH rfl (ja 0 (vs := [.slice y_5.a y_5.l.length y_5.c, str y_5.jt, iv y_5.js]) (cs' := [.slice y_5.a y_5.l.length y_5.c, str y_5.jt, iv y_5.js]) rfl rfl rfl rfl kd rfl rfl (lb rfl) rfl) ?_
  rintro _ _ rfl
  refine jE <| jB <| jC <| jC ?_
  have hyl : y_5.l.length = d.l.length := by have e_ := congrArg (fun q : DD => q.slots.length) hy_6; simpa only [DX.dat, List.length_map] using e_
  refine jF <| jK (jO 3 (vs := [.slice d.a d.l.length d.c, str d.jt, iv d.js]) rfl rfl ke kd rfl rfl) ?_
  refine jH rfl (jI [] Tryz.call47 rfl (Y_implDiskOk d hz (by omega)) rfl (fun w hw => hw.seeOutA hpre nMA)) ?_
  rintro _ _ ⟨_, ⟨rfl, rfl⟩, rfl⟩
  refine jA (jp rfl) <| jE <| jB ?_
  rcases Bool.eq_false_or_eq_true (diskOk d.dat) with h_8 | h_8
  · obtain ⟨q, hq, hql⟩ := diskOk_best h_8
    have hql : q < d.l.length := by simpa only [DX.dat, List.length_map] using hql
    have hjr := diskOk_jour h_8
    have hjr2 : ((d.jt.length : Nat) : Int) ≤ 20000 ∧ 0 ≤ d.js ∧ d.js ≤ ((d.jt.length : Nat) : Int) := by have h_ : jourOk d.jt d.js = true := hjr; simpa only [jourOk, within, Bool.and_eq_true, decide_eq_true_eq, and_assoc] using h_
    have hmost : (d.l.getD q o0).t.seq = mostOf d.dat := by rw [mostOf, hq, Int.toNat_natCast]; exact congrArg SD.seq getD_map'.symm
    have hmr := most_range h_8
    have hl2 := disk_two h_8
    refine jR (cB (cN h_8)) <| jT <| jB <| jC <| jF <| jK (jO 3 (vs := [.slice d.a d.l.length d.c, str d.jt, iv d.js]) rfl rfl ke kd rfl rfl) ?_
    refine jH rfl (jI [] Tryz.call48 rfl (Y_iBestN d hz (by omega) q hq) rfl (fun w hw => hw.seeOutA hpre nMA)) ?_
    rintro _ _ ⟨_, ⟨rfl, rfl⟩, rfl⟩
    refine jA (jG (v := nv q) rfl) <| jE <| jB <| jC <| jF <| jA (jQ fo31_0 rfl) <| jK (jZ 3 (v := .slice d.a d.l.length d.c) rfl rfl ks rfl) <| jA (jD (v := nv q) rfl) <| jA (kZ (c := ((1 - q : Nat) : Int)) rfl rfl (wr (by omega))) ?_
    obtain ⟨hr_9, hr_9b, -⟩ := sees_some hs_1 (by omega)
    refine jA (jk (i := (1 - q)) km kj hr_9 hr_9b rfl rfl (by omega)) ?_
    have hi_10 := SeesA.elem hi_2 o0 (show 1 - q < d.l.length by omega)
    have hs_11 := seesO hi_10
    refine jK (kX (vs := [iv ((d.l.getD (1 - q) o0).t.seq), .slice ((d.l.getD (1 - q) o0).x.a0) ((d.l.getD (1 - q) o0).t.cells.length) ((d.l.getD (1 - q) o0).x.c0), .bool ((d.l.getD (1 - q) o0).t.whole)]) hs_1 nM rfl gB kj (flat_take encO_len o0 d.l (1 - q) (by omega)) rfl (by decide)) ?_
    refine jH rfl (jo (z := .agg #[iv 0, .slice none 0 0, .bool false]) (cs := [iv 0, .slice none 0 0, .bool false]) gD rfl) ?_
    rintro _ _ ⟨b_12, rfl, rfl⟩
    refine jH rfl (ja 0 (vs := [iv ((d.l.getD (1 - q) o0).t.seq), .slice ((d.l.getD (1 - q) o0).x.a0) ((d.l.getD (1 - q) o0).t.cells.length) ((d.l.getD (1 - q) o0).x.c0), .bool ((d.l.getD (1 - q) o0).t.whole)]) (cs' := [iv ((d.l.getD (1 - q) o0).t.seq), .slice ((d.l.getD (1 - q) o0).x.a0) ((d.l.getD (1 - q) o0).t.cells.length) ((d.l.getD (1 - q) o0).x.c0), .bool ((d.l.getD (1 - q) o0).t.whole)]) rfl rfl rfl rfl kj rfl rfl (lb rfl) rfl) ?_
    rintro _ _ rfl
    refine jE <| jB <| jC <| jC <| kJ [bk b_12 60 [iv ((d.l.getD (1 - q) o0).t.seq), .slice ((d.l.getD (1 - q) o0).x.a0) ((d.l.getD (1 - q) o0).t.cells.length) ((d.l.getD (1 - q) o0).x.c0), .bool ((d.l.getD (1 - q) o0).t.whole)], bk b_7 31 [.slice y_5.a y_5.l.length y_5.c, str y_5.jt, iv y_5.js], Res.rows (rdsD y_5), bk b_4 31 [.slice none 0 0, str [], iv 0], bk b_3 31 [.slice d.a d.l.length d.c, str d.jt, iv d.js]] 1000 mixed (by simp) <| jL 0 rfl (jQ fo60_2 rfl) <| jw 1 rfl (jZ 0 (v := .bool ((d.l.getD (1 - q) o0).t.whole)) rfl rfl gI rfl) <| jL 2 rfl (jD (v := .bool ((d.l.getD (1 - q) o0).t.whole)) rfl) ?_
    rcases Bool.eq_false_or_eq_true ((d.l.getD (1 - q) o0).t.whole) with h_13 | h_13
    · refine jd 3 (b := true) rfl (by kernel_rfl) (NP.th (NP.th NP.body)) (by kernel_rfl) (by kernel_rfl) rfl rfl rfl (cB h_13) <| jd 4 (b := true) rfl (by kernel_rfl) (NP.th (NP.th NP.body)) (by kernel_rfl) (by kernel_rfl) rfl rfl rfl (cB h_13) <| jd 5 (b := true) rfl (by kernel_rfl) (NP.th (NP.th NP.body)) (by kernel_rfl) (by kernel_rfl) rfl rfl rfl (cB h_13) <| jd 6 (b := true) rfl (by kernel_rfl) (NP.th (NP.th NP.body)) (by kernel_rfl) (by kernel_rfl) rfl rfl rfl (cB h_13) <| jd 7 (b := true) rfl (by kernel_rfl) (NP.th (NP.th NP.body)) (by kernel_rfl) (by kernel_rfl) rfl rfl rfl (cB h_13) <| jd 8 (b := true) rfl (by kernel_rfl) (NP.th (NP.th NP.body)) (by kernel_rfl) (by kernel_rfl) rfl rfl rfl (cB h_13) <| jd 9 (b := true) rfl (by kernel_rfl) (NP.th (NP.th NP.body)) (by kernel_rfl) (by kernel_rfl) rfl rfl rfl (cB h_13) <| jd 10 (b := true) rfl (by kernel_rfl) (NP.th (NP.th NP.body)) (by kernel_rfl) (by kernel_rfl) rfl rfl rfl (cB h_13) <| jd 11 (b := true) rfl (by kernel_rfl) (NP.th (NP.th NP.body)) (by kernel_rfl) (by kernel_rfl) rfl rfl rfl (cB h_13) <| jL 12 rfl (jh (v := .bool true) (cB h_13) rfl) ?_
      refine jL 13 rfl (jD (v := .bool true) rfl) <| jd 14 (b := true) rfl (by kernel_rfl) (NP.th (NP.th NP.body)) (by kernel_rfl) (by kernel_rfl) rfl rfl rfl (cB rfl) <| jd 15 (b := true) rfl (by kernel_rfl) (NP.th (NP.th NP.body)) (by kernel_rfl) (by kernel_rfl) rfl rfl rfl (cB rfl) <| jd 16 (b := true) rfl (by kernel_rfl) (NP.th (NP.th NP.body)) (by kernel_rfl) (by kernel_rfl) rfl rfl rfl (cB rfl) <| jd 17 (b := true) rfl (by kernel_rfl) (NP.th (NP.th NP.body)) (by kernel_rfl) (by kernel_rfl) rfl rfl rfl (cB rfl) <| jL 18 rfl (jh (v := .bool true) (cB rfl) rfl) <| jL 19 rfl (jD (v := .bool true) rfl) <| jd 20 (b := true) rfl (by kernel_rfl) (NP.th (NP.th NP.body)) (by kernel_rfl) (by kernel_rfl) rfl rfl rfl (cB rfl) <| jd 21 (b := true) rfl (by kernel_rfl) (NP.th (NP.th NP.body)) (by kernel_rfl) (by kernel_rfl) rfl rfl rfl (cB rfl) <| jd 22 (b := true) rfl (by kernel_rfl) (NP.th (NP.th NP.body)) (by kernel_rfl) (by kernel_rfl) rfl rfl rfl (cB rfl) ?_
      refine jd 23 (b := true) rfl (by kernel_rfl) (NP.th (NP.th NP.body)) (by kernel_rfl) (by kernel_rfl) rfl rfl rfl (cB rfl) <| jL 24 rfl (jh (v := .bool true) (cB rfl) rfl) <| kI (by kernel_rfl) <| jB <| jW (cB rfl) <| jC <| jF <| jK (jO 1 (vs := [.slice y_5.a y_5.l.length y_5.c, str y_5.jt, iv y_5.js]) rfl rfl ke kd rfl rfl) ?_
      refine jH rfl (ja 3 (vs := [.slice y_5.a y_5.l.length y_5.c, str y_5.jt, iv y_5.js]) (cs' := [.slice y_5.a y_5.l.length y_5.c, str y_5.jt, iv y_5.js]) rfl rfl rfl rfl kd rfl rfl (lb rfl) rfl) ?_
      rintro _ _ rfl
      refine jA (jG (v := .bool false) rfl) <| jE <| jB <| jN <| jX <| kM (pick_perm [2] (A := [Res.rows (rdsD y_5)]) (F := [bk b_12 60 [iv ((d.l.getD (1 - q) o0).t.seq), .slice ((d.l.getD (1 - q) o0).x.a0) ((d.l.getD (1 - q) o0).t.cells.length) ((d.l.getD (1 - q) o0).x.c0), .bool ((d.l.getD (1 - q) o0).t.whole)], bk b_7 31 [.slice y_5.a y_5.l.length y_5.c, str y_5.jt, iv y_5.js], bk b_4 31 [.slice y_5.a y_5.l.length y_5.c, str y_5.jt, iv y_5.js], bk b_3 31 [.slice d.a d.l.length d.c, str d.jt, iv d.js]]) rfl).symm <| kC (.inl rfl) rfl (kA (jO 3 (vs := [.slice y_5.a y_5.l.length y_5.c, str y_5.jt, iv y_5.js]) rfl rfl ke kd rfl rfl) ⟨_, rfl⟩) (jJ (v := .bool false) rfl) (tS 1 _) ?_
      have hoth : othD d.dat = (d.l.getD (1 - q) o0).t := by rw [othD, hq, Int.toNat_natCast]; exact getD_map'
      have he := foldE_no (d := d.dat) (by rw [hoth]; rintro ⟨h_1, h_2, h_3, h_4, h_5⟩; first | omega | simp_all)
      exact ⟨y_5, (hy_6).trans (congrArg Prod.fst he).symm, by rw [he], rfl⟩
    refine jg 3 rfl (by kernel_rfl) (NP.th (NP.th NP.body)) (by kernel_rfl) (by kernel_rfl) rfl rfl rfl (cB h_13) (jQ fo60_0 rfl) <| kK 4 rfl (by kernel_rfl) (NP.th (NP.th NP.body)) (by kernel_rfl) (by kernel_rfl) (by kernel_rfl) rfl rfl rfl (cB h_13) (jZ 0 (v := iv ((d.l.getD (1 - q) o0).t.seq)) rfl rfl kq rfl) <| jg 5 rfl (by kernel_rfl) (NP.th (NP.th NP.body)) (by kernel_rfl) (by kernel_rfl) rfl rfl rfl (cB h_13) (jQ fo31_0 rfl) <| kK 6 rfl (by kernel_rfl) (NP.th (NP.th NP.body)) (by kernel_rfl) (by kernel_rfl) (by kernel_rfl) rfl rfl rfl (cB h_13) (jZ 4 (v := .slice d.a d.l.length d.c) rfl rfl ks rfl) <| jg 7 rfl (by kernel_rfl) (NP.th (NP.th NP.body)) (by kernel_rfl) (by kernel_rfl) rfl rfl rfl (cB h_13) (jD (v := nv q) rfl) <| jg 8 rfl (by kernel_rfl) (NP.th (NP.th NP.body)) (by kernel_rfl) (by kernel_rfl) rfl rfl rfl (cB h_13) (jk (i := q) km kj hr_9 hr_9b rfl rfl (by omega)) <| jg 9 rfl (by kernel_rfl) (NP.th (NP.th NP.body)) (by kernel_rfl) (by kernel_rfl) rfl rfl rfl (cB h_13) (kL fo60_0 hr_9 rfl) ?_
    have hi_14 := SeesA.elem hi_2 o0 (show q < d.l.length by omega)
    have hs_15 := seesO hi_14
    refine kK 10 rfl (by kernel_rfl) (NP.th (NP.th NP.body)) (by kernel_rfl) (by kernel_rfl) (by kernel_rfl) rfl rfl rfl (cB h_13) (kY (v := iv ((d.l.getD q o0).t.seq)) hs_1 nM rfl kq (flat_at encO_len o0 d.l q 0 (by omega) (by decide))) <| jg 11 rfl (by kernel_rfl) (NP.th (NP.th NP.body)) (by kernel_rfl) (by kernel_rfl) rfl rfl rfl (cB h_13) (PO.leq rfl rfl) <| jL 12 rfl (ji (v := .bool (decide (((d.l.getD (1 - q) o0).t.seq) ≤ ((d.l.getD q o0).t.seq)))) (cB h_13) rfl) <| jL 13 rfl (jD (v := .bool (decide (((d.l.getD (1 - q) o0).t.seq) ≤ ((d.l.getD q o0).t.seq)))) rfl) ?_
    by_cases h_16 : ((d.l.getD (1 - q) o0).t.seq) ≤ ((d.l.getD q o0).t.seq)
    · refine jd 14 (b := true) rfl (by kernel_rfl) (NP.th (NP.th NP.body)) (by kernel_rfl) (by kernel_rfl) rfl rfl rfl (cB (dT h_16)) <| jd 15 (b := true) rfl (by kernel_rfl) (NP.th (NP.th NP.body)) (by kernel_rfl) (by kernel_rfl) rfl rfl rfl (cB (dT h_16)) <| jd 16 (b := true) rfl (by kernel_rfl) (NP.th (NP.th NP.body)) (by kernel_rfl) (by kernel_rfl) rfl rfl rfl (cB (dT h_16)) <| jd 17 (b := true) rfl (by kernel_rfl) (NP.th (NP.th NP.body)) (by kernel_rfl) (by kernel_rfl) rfl rfl rfl (cB (dT h_16)) <| jL 18 rfl (jh (v := .bool true) (cB (dT h_16)) rfl) <| jL 19 rfl (jD (v := .bool true) rfl) <| jd 20 (b := true) rfl (by kernel_rfl) (NP.th (NP.th NP.body)) (by kernel_rfl) (by kernel_rfl) rfl rfl rfl (cB rfl) <| jd 21 (b := true) rfl (by kernel_rfl) (NP.th (NP.th NP.body)) (by kernel_rfl) (by kernel_rfl) rfl rfl rfl (cB rfl) <| jd 22 (b := true) rfl (by kernel_rfl) (NP.th (NP.th NP.body)) (by kernel_rfl) (by kernel_rfl) rfl rfl rfl (cB rfl) <| jd 23 (b := true) rfl (by kernel_rfl) (NP.th (NP.th NP.body)) (by kernel_rfl) (by kernel_rfl) rfl rfl rfl (cB rfl) ?_
      refine jL 24 rfl (jh (v := .bool true) (cB rfl) rfl) <| kI (by kernel_rfl) <| jB <| jW (cB rfl) <| jC <| jF <| jK (jO 1 (vs := [.slice y_5.a y_5.l.length y_5.c, str y_5.jt, iv y_5.js]) rfl rfl ke kd rfl rfl) ?_
      refine jH rfl (ja 3 (vs := [.slice y_5.a y_5.l.length y_5.c, str y_5.jt, iv y_5.js]) (cs' := [.slice y_5.a y_5.l.length y_5.c, str y_5.jt, iv y_5.js]) rfl rfl rfl rfl kd rfl rfl (lb rfl) rfl) ?_
      rintro _ _ rfl
      refine jA (jG (v := .bool false) rfl) <| jE <| jB <| jN <| jX <| kM (pick_perm [2] (A := [Res.rows (rdsD y_5)]) (F := [bk b_12 60 [iv ((d.l.getD (1 - q) o0).t.seq), .slice ((d.l.getD (1 - q) o0).x.a0) ((d.l.getD (1 - q) o0).t.cells.length) ((d.l.getD (1 - q) o0).x.c0), .bool ((d.l.getD (1 - q) o0).t.whole)], bk b_7 31 [.slice y_5.a y_5.l.length y_5.c, str y_5.jt, iv y_5.js], bk b_4 31 [.slice y_5.a y_5.l.length y_5.c, str y_5.jt, iv y_5.js], bk b_3 31 [.slice d.a d.l.length d.c, str d.jt, iv d.js]]) rfl).symm <| kC (.inl rfl) rfl (kA (jO 3 (vs := [.slice y_5.a y_5.l.length y_5.c, str y_5.jt, iv y_5.js]) rfl rfl ke kd rfl rfl) ⟨_, rfl⟩) (jJ (v := .bool false) rfl) (tS 1 _) ?_
      have hoth : othD d.dat = (d.l.getD (1 - q) o0).t := by rw [othD, hq, Int.toNat_natCast]; exact getD_map'
      have he := foldE_no (d := d.dat) (by rw [hoth]; rintro ⟨h_1, h_2, h_3, h_4, h_5⟩; first | omega | simp_all)
      exact ⟨y_5, (hy_6).trans (congrArg Prod.fst he).symm, by rw [he], rfl⟩
    refine jg 14 rfl (by kernel_rfl) (NP.th (NP.th NP.body)) (by kernel_rfl) (by kernel_rfl) rfl rfl rfl (cB (dF h_16)) (jQ fo60_0 rfl) <| kK 15 rfl (by kernel_rfl) (NP.th (NP.th NP.body)) (by kernel_rfl) (by kernel_rfl) (by kernel_rfl) rfl rfl rfl (cB (dF h_16)) (jZ 0 (v := iv ((d.l.getD (1 - q) o0).t.seq)) rfl rfl kq rfl) <| jj (i := 16) ?_
    refine kQ rfl rfl rfl rfl (cB (dF h_16)) (jI [] Tryz.call76 rfl (Y_within ((d.l.getD (1 - q) o0).t.seq) 0 99999) rfl (fun _ _ => trivial)) ?_
    rintro _ _ ⟨_, ⟨rfl, rfl⟩, rfl⟩
    refine ⟨by simp, ?_⟩
    refine jg 17 rfl (by kernel_rfl) (NP.th (NP.th NP.body)) (by kernel_rfl) (by kernel_rfl) rfl rfl rfl (cB (dF h_16)) (jp rfl) <| jL 18 rfl (ji (v := .bool (!(within 0 ((d.l.getD (1 - q) o0).t.seq) 99999))) (cB (dF h_16)) rfl) <| jL 19 rfl (jD (v := .bool (!(within 0 ((d.l.getD (1 - q) o0).t.seq) 99999))) rfl) ?_
    rcases Bool.eq_false_or_eq_true (within 0 ((d.l.getD (1 - q) o0).t.seq) 99999) with h_17 | h_17
    · refine jg 20 rfl (by kernel_rfl) (NP.th (NP.th NP.body)) (by kernel_rfl) (by kernel_rfl) rfl rfl rfl (cB (cN h_17)) (jQ fo60_1 rfl) <| kK 21 rfl (by kernel_rfl) (NP.th (NP.th NP.body)) (by kernel_rfl) (by kernel_rfl) (by kernel_rfl) rfl rfl rfl (cB (cN h_17)) (jZ 0 (v := .slice ((d.l.getD (1 - q) o0).x.a0) ((d.l.getD (1 - q) o0).t.cells.length) ((d.l.getD (1 - q) o0).x.c0)) rfl rfl kz rfl) <| jj (i := 22) ?_
      refine kQ rfl rfl rfl rfl (cB (cN h_17)) (jI [] Tryz.call85 rfl (Y_implStoreOk (d.l.getD (1 - q) o0).x.a0 ((d.l.getD (1 - q) o0).x.c0) ((d.l.getD (1 - q) o0).t.cells) (hz.k1 _ (List.mem_map_of_mem (getD_mem (d := o0) (by omega)))).k0) rfl (fun w hw => hw.seeOut_ hs_11 nM)) ?_
      rintro _ _ ⟨_, ⟨rfl, rfl⟩, rfl⟩
      refine ⟨by simp, ?_⟩
      refine jg 23 rfl (by kernel_rfl) (NP.th (NP.th NP.body)) (by kernel_rfl) (by kernel_rfl) rfl rfl rfl (cB (cN h_17)) (jp rfl) <| jL 24 rfl (ji (v := .bool (!(storeOk ((d.l.getD (1 - q) o0).t.cells)))) (cB (cN h_17)) rfl) <| kI (by kernel_rfl) <| jB ?_
      rcases Bool.eq_false_or_eq_true (storeOk ((d.l.getD (1 - q) o0).t.cells)) with h_18 | h_18
      · refine jR (cB (cN h_18)) <| jT <| jB <| jC <| kT (L' := [Res.row (.slice y_5.a y_5.l.length y_5.c) 60 3 y_5.l.length (y_5.l.flatMap encO), Res.rows (y_5.l.flatMap rdsO), bk b_12 60 [iv ((d.l.getD (1 - q) o0).t.seq), .slice ((d.l.getD (1 - q) o0).x.a0) ((d.l.getD (1 - q) o0).t.cells.length) ((d.l.getD (1 - q) o0).x.c0), .bool ((d.l.getD (1 - q) o0).t.whole)], bk b_7 31 [.slice y_5.a y_5.l.length y_5.c, str y_5.jt, iv y_5.js], bk b_4 31 [.slice none 0 0, str [], iv 0], bk b_3 31 [.slice d.a d.l.length d.c, str d.jt, iv d.js]]) (fun w hw => hw.headR (r := ⟨.slice y_5.a y_5.l.length y_5.c, 60, 3, y_5.l.length, y_5.l.flatMap encO⟩) (A := y_5.l.flatMap rdsO) 2 rfl) <| jF <| jA (jQ fo31_0 rfl) <| jK (jZ 3 (v := .slice y_5.a y_5.l.length y_5.c) rfl rfl ks rfl) <| jA (jD (v := nv q) rfl) <| jA (kZ (c := ((1 - q : Nat) : Int)) rfl rfl (wr (by omega))) ?_
        refine kN fun hst => ?_
        obtain ⟨hr_19, hr_19b, -⟩ := row_some 0 rfl (by omega) hst
        refine jA (jk (i := (1 - q)) km kj hr_19 hr_19b rfl rfl (by omega)) <| jA (kL fo60_2 hr_19 rfl) ?_
        refine jH rfl (JO.storeR 0 (vs := [.bool true]) (cs' := (y_5.l.set (1 - q) (⟨⟨(y_5.l.getD (1 - q) o0).x.a0, ((y_5.l.getD (1 - q) o0).x.c0)⟩, ⟨(y_5.l.getD (1 - q) o0).t.seq, (y_5.l.getD (1 - q) o0).t.cells, true⟩⟩ : OX)).flatMap encO) rfl rfl rfl rfl Tryz.sizeOf4 rfl rfl (by decide) (by rw [flat_length encO_len]; omega) (flat_set1 encO_len o0 (f := 2) (y := (⟨⟨(y_5.l.getD (1 - q) o0).x.a0, ((y_5.l.getD (1 - q) o0).x.c0)⟩, ⟨(y_5.l.getD (1 - q) o0).t.seq, (y_5.l.getD (1 - q) o0).t.cells, true⟩⟩ : OX)) (by omega) (by decide) rfl)) ?_
        rintro _ _ rfl
        refine jE <| jB <| jC <| jF <| jK (jO 3 (vs := [.slice y_5.a y_5.l.length y_5.c, str y_5.jt, iv y_5.js]) rfl rfl ke kd rfl rfl) ?_
        refine jH rfl (ja 4 (vs := [.slice y_5.a y_5.l.length y_5.c, str y_5.jt, iv y_5.js]) (cs' := [.slice y_5.a y_5.l.length y_5.c, str y_5.jt, iv y_5.js]) rfl rfl rfl rfl kd rfl rfl (lb rfl) rfl) ?_
        rintro _ _ rfl
        refine jA (jG (v := .bool true) rfl) <| jE <| jB <| jN <| ju (L' := [Res.rows ((y_5.l.set (1 - q) (⟨⟨(y_5.l.getD (1 - q) o0).x.a0, ((y_5.l.getD (1 - q) o0).x.c0)⟩, ⟨(y_5.l.getD (1 - q) o0).t.seq, (y_5.l.getD (1 - q) o0).t.cells, true⟩⟩ : OX)).flatMap rdsO), Res.row (.slice y_5.a y_5.l.length y_5.c) 60 3 y_5.l.length ((y_5.l.set (1 - q) (⟨⟨(y_5.l.getD (1 - q) o0).x.a0, ((y_5.l.getD (1 - q) o0).x.c0)⟩, ⟨(y_5.l.getD (1 - q) o0).t.seq, (y_5.l.getD (1 - q) o0).t.cells, true⟩⟩ : OX)).flatMap encO), bk b_12 60 [iv ((d.l.getD (1 - q) o0).t.seq), .slice ((d.l.getD (1 - q) o0).x.a0) ((d.l.getD (1 - q) o0).t.cells.length) ((d.l.getD (1 - q) o0).x.c0), .bool ((d.l.getD (1 - q) o0).t.whole)], bk b_7 31 [.slice y_5.a y_5.l.length y_5.c, str y_5.jt, iv y_5.js], bk b_4 31 [.slice y_5.a y_5.l.length y_5.c, str y_5.jt, iv y_5.js], bk b_3 31 [.slice d.a d.l.length d.c, str d.jt, iv d.js]]) (fun w hw => hw.rowsEq 1 (A := y_5.l.flatMap rdsO) (B := (y_5.l.set (1 - q) (⟨⟨(y_5.l.getD (1 - q) o0).x.a0, ((y_5.l.getD (1 - q) o0).x.c0)⟩, ⟨(y_5.l.getD (1 - q) o0).t.seq, (y_5.l.getD (1 - q) o0).t.cells, true⟩⟩ : OX)).flatMap rdsO) (F := [Res.row (.slice y_5.a y_5.l.length y_5.c) 60 3 y_5.l.length ((y_5.l.set (1 - q) (⟨⟨(y_5.l.getD (1 - q) o0).x.a0, ((y_5.l.getD (1 - q) o0).x.c0)⟩, ⟨(y_5.l.getD (1 - q) o0).t.seq, (y_5.l.getD (1 - q) o0).t.cells, true⟩⟩ : OX)).flatMap encO), bk b_12 60 [iv ((d.l.getD (1 - q) o0).t.seq), .slice ((d.l.getD (1 - q) o0).x.a0) ((d.l.getD (1 - q) o0).t.cells.length) ((d.l.getD (1 - q) o0).x.c0), .bool ((d.l.getD (1 - q) o0).t.whole)], bk b_7 31 [.slice y_5.a y_5.l.length y_5.c, str y_5.jt, iv y_5.js], bk b_4 31 [.slice y_5.a y_5.l.length y_5.c, str y_5.jt, iv y_5.js], bk b_3 31 [.slice d.a d.l.length d.c, str d.jt, iv d.js]]) rfl (flatMap_sameO (l := y_5.l) (i := 1 - q) (x := (⟨⟨(y_5.l.getD (1 - q) o0).x.a0, ((y_5.l.getD (1 - q) o0).x.c0)⟩, ⟨(y_5.l.getD (1 - q) o0).t.seq, (y_5.l.getD (1 - q) o0).t.cells, true⟩⟩ : OX)) (by omega) rfl).symm) <| ju (L' := [Res.rows ((y_5.l.set (1 - q) (⟨⟨(y_5.l.getD (1 - q) o0).x.a0, ((y_5.l.getD (1 - q) o0).x.c0)⟩, ⟨(y_5.l.getD (1 - q) o0).t.seq, (y_5.l.getD (1 - q) o0).t.cells, true⟩⟩ : OX)).flatMap rdsO), Res.row (.slice y_5.a ((y_5.l.set (1 - q) (⟨⟨(y_5.l.getD (1 - q) o0).x.a0, ((y_5.l.getD (1 - q) o0).x.c0)⟩, ⟨(y_5.l.getD (1 - q) o0).t.seq, (y_5.l.getD (1 - q) o0).t.cells, true⟩⟩ : OX)).length) y_5.c) 60 3 ((y_5.l.set (1 - q) (⟨⟨(y_5.l.getD (1 - q) o0).x.a0, ((y_5.l.getD (1 - q) o0).x.c0)⟩, ⟨(y_5.l.getD (1 - q) o0).t.seq, (y_5.l.getD (1 - q) o0).t.cells, true⟩⟩ : OX)).length) ((y_5.l.set (1 - q) (⟨⟨(y_5.l.getD (1 - q) o0).x.a0, ((y_5.l.getD (1 - q) o0).x.c0)⟩, ⟨(y_5.l.getD (1 - q) o0).t.seq, (y_5.l.getD (1 - q) o0).t.cells, true⟩⟩ : OX)).flatMap encO), bk b_12 60 [iv ((d.l.getD (1 - q) o0).t.seq), .slice ((d.l.getD (1 - q) o0).x.a0) ((d.l.getD (1 - q) o0).t.cells.length) ((d.l.getD (1 - q) o0).x.c0), .bool ((d.l.getD (1 - q) o0).t.whole)], bk b_7 31 [.slice y_5.a y_5.l.length y_5.c, str y_5.jt, iv y_5.js], bk b_4 31 [.slice y_5.a y_5.l.length y_5.c, str y_5.jt, iv y_5.js], bk b_3 31 [.slice d.a d.l.length d.c, str d.jt, iv d.js]]) (fun w hw => hw.eqL (by simp only [List.length_set])) <| ju (L' := [Res.rows (rdsOS y_5.a y_5.c (y_5.l.set (1 - q) (⟨⟨(y_5.l.getD (1 - q) o0).x.a0, ((y_5.l.getD (1 - q) o0).x.c0)⟩, ⟨(y_5.l.getD (1 - q) o0).t.seq, (y_5.l.getD (1 - q) o0).t.cells, true⟩⟩ : OX))), bk b_12 60 [iv ((d.l.getD (1 - q) o0).t.seq), .slice ((d.l.getD (1 - q) o0).x.a0) ((d.l.getD (1 - q) o0).t.cells.length) ((d.l.getD (1 - q) o0).x.c0), .bool ((d.l.getD (1 - q) o0).t.whole)], bk b_7 31 [.slice y_5.a y_5.l.length y_5.c, str y_5.jt, iv y_5.js], bk b_4 31 [.slice y_5.a y_5.l.length y_5.c, str y_5.jt, iv y_5.js], bk b_3 31 [.slice d.a d.l.length d.c, str d.jt, iv d.js]]) (fun w hw => hw.consR (r := ⟨.slice y_5.a ((y_5.l.set (1 - q) (⟨⟨(y_5.l.getD (1 - q) o0).x.a0, ((y_5.l.getD (1 - q) o0).x.c0)⟩, ⟨(y_5.l.getD (1 - q) o0).t.seq, (y_5.l.getD (1 - q) o0).t.cells, true⟩⟩ : OX)).length) y_5.c, 60, 3, (y_5.l.set (1 - q) (⟨⟨(y_5.l.getD (1 - q) o0).x.a0, ((y_5.l.getD (1 - q) o0).x.c0)⟩, ⟨(y_5.l.getD (1 - q) o0).t.seq, (y_5.l.getD (1 - q) o0).t.cells, true⟩⟩ : OX)).length, (y_5.l.set (1 - q) (⟨⟨(y_5.l.getD (1 - q) o0).x.a0, ((y_5.l.getD (1 - q) o0).x.c0)⟩, ⟨(y_5.l.getD (1 - q) o0).t.seq, (y_5.l.getD (1 - q) o0).t.cells, true⟩⟩ : OX)).flatMap encO⟩) (A := (y_5.l.set (1 - q) (⟨⟨(y_5.l.getD (1 - q) o0).x.a0, ((y_5.l.getD (1 - q) o0).x.c0)⟩, ⟨(y_5.l.getD (1 - q) o0).t.seq, (y_5.l.getD (1 - q) o0).t.cells, true⟩⟩ : OX)).flatMap rdsO) [1, 0] rfl) <| kC (.inl rfl) rfl (kA (jO 3 (vs := [.slice y_5.a y_5.l.length y_5.c, str y_5.jt, iv y_5.js]) rfl rfl ke kd rfl rfl) ⟨_, rfl⟩) (jJ (v := .bool true) rfl) (tS 1 _) ?_
        have hoth : othD d.dat = (d.l.getD (1 - q) o0).t := by rw [othD, hq, Int.toNat_natCast]; exact getD_map'
        have he := foldE_yes (d := d.dat) (by rw [hoth]; exact ⟨h_8, by assumption, by omega, by assumption, by assumption⟩)
        rw [hoth] at he
        refine ⟨(⟨y_5.a, y_5.c, y_5.l.set (1 - q) (⟨⟨(y_5.l.getD (1 - q) o0).x.a0, ((y_5.l.getD (1 - q) o0).x.c0)⟩, ⟨(y_5.l.getD (1 - q) o0).t.seq, (y_5.l.getD (1 - q) o0).t.cells, true⟩⟩ : OX), y_5.jt, y_5.js⟩ : DX), ?_, by simp only [he, List.length_set], rfl⟩
        rw [he]
        have hg : (y_5.l.getD (1 - q) o0).t = (d.l.getD (1 - q) o0).t := getM_eq (f := OX.t) o0 (congrArg DD.slots hy_6) (by omega) hyl
        exact fold_dat (congrArg DD.slots hy_6) (congrArg DD.jt hy_6) (congrArg DD.js hy_6) hq (by rw [← hg])
      refine jW (cB (cN h_18)) <| jC <| jF <| jK (jO 1 (vs := [.slice y_5.a y_5.l.length y_5.c, str y_5.jt, iv y_5.js]) rfl rfl ke kd rfl rfl) ?_
      refine jH rfl (ja 3 (vs := [.slice y_5.a y_5.l.length y_5.c, str y_5.jt, iv y_5.js]) (cs' := [.slice y_5.a y_5.l.length y_5.c, str y_5.jt, iv y_5.js]) rfl rfl rfl rfl kd rfl rfl (lb rfl) rfl) ?_
      rintro _ _ rfl
      refine jA (jG (v := .bool false) rfl) <| jE <| jB <| jN <| jX <| kM (pick_perm [2] (A := [Res.rows (rdsD y_5)]) (F := [bk b_12 60 [iv ((d.l.getD (1 - q) o0).t.seq), .slice ((d.l.getD (1 - q) o0).x.a0) ((d.l.getD (1 - q) o0).t.cells.length) ((d.l.getD (1 - q) o0).x.c0), .bool ((d.l.getD (1 - q) o0).t.whole)], bk b_7 31 [.slice y_5.a y_5.l.length y_5.c, str y_5.jt, iv y_5.js], bk b_4 31 [.slice y_5.a y_5.l.length y_5.c, str y_5.jt, iv y_5.js], bk b_3 31 [.slice d.a d.l.length d.c, str d.jt, iv d.js]]) rfl).symm <| kC (.inl rfl) rfl (kA (jO 3 (vs := [.slice y_5.a y_5.l.length y_5.c, str y_5.jt, iv y_5.js]) rfl rfl ke kd rfl rfl) ⟨_, rfl⟩) (jJ (v := .bool false) rfl) (tS 1 _) ?_
      have hoth : othD d.dat = (d.l.getD (1 - q) o0).t := by rw [othD, hq, Int.toNat_natCast]; exact getD_map'
      have he := foldE_no (d := d.dat) (by rw [hoth]; rintro ⟨h_1, h_2, h_3, h_4, h_5⟩; first | omega | simp_all)
      exact ⟨y_5, (hy_6).trans (congrArg Prod.fst he).symm, by rw [he], rfl⟩
    refine jd 20 (b := true) rfl (by kernel_rfl) (NP.th (NP.th NP.body)) (by kernel_rfl) (by kernel_rfl) rfl rfl rfl (cB (cN h_17)) <| jd 21 (b := true) rfl (by kernel_rfl) (NP.th (NP.th NP.body)) (by kernel_rfl) (by kernel_rfl) rfl rfl rfl (cB (cN h_17)) <| jd 22 (b := true) rfl (by kernel_rfl) (NP.th (NP.th NP.body)) (by kernel_rfl) (by kernel_rfl) rfl rfl rfl (cB (cN h_17)) <| jd 23 (b := true) rfl (by kernel_rfl) (NP.th (NP.th NP.body)) (by kernel_rfl) (by kernel_rfl) rfl rfl rfl (cB (cN h_17)) <| jL 24 rfl (jh (v := .bool true) (cB (cN h_17)) rfl) <| kI (by kernel_rfl) <| jB <| jW (cB rfl) <| jC <| jF ?_
    refine jK (jO 1 (vs := [.slice y_5.a y_5.l.length y_5.c, str y_5.jt, iv y_5.js]) rfl rfl ke kd rfl rfl) ?_
    refine jH rfl (ja 3 (vs := [.slice y_5.a y_5.l.length y_5.c, str y_5.jt, iv y_5.js]) (cs' := [.slice y_5.a y_5.l.length y_5.c, str y_5.jt, iv y_5.js]) rfl rfl rfl rfl kd rfl rfl (lb rfl) rfl) ?_
    rintro _ _ rfl
    refine jA (jG (v := .bool false) rfl) <| jE <| jB <| jN <| jX <| kM (pick_perm [2] (A := [Res.rows (rdsD y_5)]) (F := [bk b_12 60 [iv ((d.l.getD (1 - q) o0).t.seq), .slice ((d.l.getD (1 - q) o0).x.a0) ((d.l.getD (1 - q) o0).t.cells.length) ((d.l.getD (1 - q) o0).x.c0), .bool ((d.l.getD (1 - q) o0).t.whole)], bk b_7 31 [.slice y_5.a y_5.l.length y_5.c, str y_5.jt, iv y_5.js], bk b_4 31 [.slice y_5.a y_5.l.length y_5.c, str y_5.jt, iv y_5.js], bk b_3 31 [.slice d.a d.l.length d.c, str d.jt, iv d.js]]) rfl).symm <| kC (.inl rfl) rfl (kA (jO 3 (vs := [.slice y_5.a y_5.l.length y_5.c, str y_5.jt, iv y_5.js]) rfl rfl ke kd rfl rfl) ⟨_, rfl⟩) (jJ (v := .bool false) rfl) (tS 1 _) ?_
    have hoth : othD d.dat = (d.l.getD (1 - q) o0).t := by rw [othD, hq, Int.toNat_natCast]; exact getD_map'
    have he := foldE_no (d := d.dat) (by rw [hoth]; rintro ⟨h_1, h_2, h_3, h_4, h_5⟩; first | omega | simp_all)
    exact ⟨y_5, (hy_6).trans (congrArg Prod.fst he).symm, by rw [he], rfl⟩
  refine jW (cB (cN h_8)) <| jC <| jF <| jK (jO 0 (vs := [.slice y_5.a y_5.l.length y_5.c, str y_5.jt, iv y_5.js]) rfl rfl ke kd rfl rfl) ?_
  refine jH rfl (ja 2 (vs := [.slice y_5.a y_5.l.length y_5.c, str y_5.jt, iv y_5.js]) (cs' := [.slice y_5.a y_5.l.length y_5.c, str y_5.jt, iv y_5.js]) rfl rfl rfl rfl kd rfl rfl (lb rfl) rfl) ?_
  rintro _ _ rfl
  refine jA (jG (v := .bool false) rfl) <| jE <| jB <| jN <| jX <| kM (pick_perm [1] (A := [Res.rows (rdsD y_5)]) (F := [bk b_7 31 [.slice y_5.a y_5.l.length y_5.c, str y_5.jt, iv y_5.js], bk b_4 31 [.slice y_5.a y_5.l.length y_5.c, str y_5.jt, iv y_5.js], bk b_3 31 [.slice d.a d.l.length d.c, str d.jt, iv d.js]]) rfl).symm <| kC (.inl rfl) rfl (kA (jO 2 (vs := [.slice y_5.a y_5.l.length y_5.c, str y_5.jt, iv y_5.js]) rfl rfl ke kd rfl rfl) ⟨_, rfl⟩) (jJ (v := .bool false) rfl) (tS 1 _) ?_
  have he := foldE_no (d := d.dat) (by rintro ⟨h_1, h_2, h_3, h_4, h_5⟩; first | omega | simp_all)
  exact ⟨y_5, (hy_6).trans (congrArg Prod.fst he).symm, by rw [he], rfl⟩

set_option maxRecDepth 4000 in
set_option maxHeartbeats 1000000 in
theorem Y_iFolded (d : DX) (hz : d.dat.okz) (hl : d.dat.lim 1000000000) :
    Ct Tryz.prog 23 [.agg #[.slice d.a d.l.length d.c, str d.jt, .int .i64 d.js]] [] (fun w => SeesA w (rdsD d) ∧ HexOk w) (fun v A' => ∃ y : DX, y.dat = d.dat.folded.1 ∧ v = .tuple #[.agg #[.slice y.a y.l.length y.c, str y.jt, .int .i64 y.js], .bool d.dat.folded.2] ∧ A' = [.rows (rdsD y)]) := by
  refine Ct.introL Tryz.func23 rfl Tryz.ntmps23 (lb rfl) fun w0 hpre hlow => ?_
  have hs_1 : Sees w0 (.slice d.a d.l.length d.c) 3 d.l.length (d.l.flatMap encO) := (hpre.1).head
  have hi_2 : SeesA w0 (d.l.flatMap rdsO) := (hpre.1).tail
  have hjt := hz.k2
  have hdl : d.l.length ≤ 1000000000 := by have := hl.l0; simpa only [DX.dat, List.length_map] using this
  refine jC <| jF ?_
  refine jH rfl (kG (cs := [.slice d.a d.l.length d.c, str d.jt, iv d.js]) rfl rfl) ?_
  rintro _ _ ⟨b_3, rfl, rfl⟩
  refine jH rfl (jo (z := .agg #[.slice none 0 0, str [], iv 0]) (cs := [.slice none 0 0, str [], iv 0]) ko rfl) ?_
  rintro _ _ ⟨b_4, rfl, rfl⟩
  refine jA (jG (v := .bool false) rfl) <| jE <| jB <| jC <| jF <| jK (jO 1 (vs := [.slice d.a d.l.length d.c, str d.jt, iv d.js]) rfl rfl ke kd rfl rfl) ?_
  refine jH rfl (jI [] Tryz.call21 rfl (Y_iFoldB d hz hl) rfl (fun w hw => ⟨hw.seeOutA hpre.1 nMA, hw.hex hlow hpre.2⟩)) ?_
  rintro _ _ ⟨_, ⟨y_5, hy_6, rfl, rfl⟩, rfl⟩
  have hz_7 : y_5.dat.okz := by rw [hy_6]; exact foldB_okz hz
  have hl_8 : y_5.dat.lim 1000000000 := by rw [hy_6]; exact foldB_lim hz hl (by decide)
  refine jA (jD (v := .tuple #[.agg #[.slice y_5.a y_5.l.length y_5.c, str y_5.jt, iv y_5.js], .bool ((d.dat.foldB).2)]) rfl) <| jA (je (v := .agg #[.slice y_5.a y_5.l.length y_5.c, str y_5.jt, iv y_5.js]) rfl rfl) <| jA (je (v := .bool ((d.dat.foldB).2)) rfl rfl) ?_
  refine jH rfl (jo (z := .agg #[.slice none 0 0, str [], iv 0]) (cs := [.slice none 0 0, str [], iv 0]) ko rfl) ?_
  rintro _ _ ⟨b_9, rfl, rfl⟩
  refine jH rfl (ja 0 (vs := [.slice y_5.a y_5.l.length y_5.c, str y_5.jt, iv y_5.js]) (cs' := [.slice y_5.a y_5.l.length y_5.c, str y_5.jt, iv y_5.js]) rfl rfl rfl rfl kd rfl rfl (lb rfl) rfl) ?_
  rintro _ _ rfl
  refine jA (jG (v := .bool ((d.dat.foldB).2)) rfl) <| jE <| jB <| jC <| jF <| jK (jO 0 (vs := [.slice y_5.a y_5.l.length y_5.c, str y_5.jt, iv y_5.js]) rfl rfl ke kd rfl rfl) ?_
  refine jH rfl (jI [] Tryz.call32 rfl (Y_iFoldE y_5 hz_7 hl_8) rfl (fun w hw => hw.seeRows 1 rfl)) ?_
  rintro _ _ ⟨_, ⟨y_10, hy_11, rfl, rfl⟩, rfl⟩
  have hz_12 : y_10.dat.okz := by rw [hy_11]; exact foldE_okz hz_7
  have hl_13 : y_10.dat.lim 1000000000 := by rw [hy_11]; exact foldE_lim hl_8
  refine jA (jD (v := .tuple #[.agg #[.slice y_10.a y_10.l.length y_10.c, str y_10.jt, iv y_10.js], .bool ((y_5.dat.foldE).2)]) rfl) <| jA (je (v := .agg #[.slice y_10.a y_10.l.length y_10.c, str y_10.jt, iv y_10.js]) rfl rfl) <| jA (je (v := .bool ((y_5.dat.foldE).2)) rfl rfl) ?_
  refine jH rfl (jo (z := .agg #[.slice none 0 0, str [], iv 0]) (cs := [.slice none 0 0, str [], iv 0]) ko rfl) ?_
  rintro _ _ ⟨b_14, rfl, rfl⟩
  refine jH rfl (ja 0 (vs := [.slice y_10.a y_10.l.length y_10.c, str y_10.jt, iv y_10.js]) (cs' := [.slice y_10.a y_10.l.length y_10.c, str y_10.jt, iv y_10.js]) rfl rfl rfl rfl kd rfl rfl (lb rfl) rfl) ?_
  rintro _ _ rfl
  refine jA (jG (v := .bool ((y_5.dat.foldE).2)) rfl) <| jE <| jB <| jC <| jC <| jF <| jA (jD (v := .bool ((d.dat.foldB).2)) rfl) <| jA (jp rfl) <| jA (jD (v := .bool (!((d.dat.foldB).2))) rfl) ?_
  rcases Bool.eq_false_or_eq_true ((d.dat.foldB).2) with h_15 | h_15
  · refine jM rfl rfl rfl (cB (cN h_15)) (jP (jU (jD (v := .bool ((y_5.dat.foldE).2)) rfl))) ?_
    rintro _ _ ⟨rfl, rfl⟩
    refine jM rfl rfl rfl (cB (cN h_15)) (jP (jU (jp rfl))) ?_
    rintro _ _ ⟨rfl, rfl⟩
    refine jA (ji (v := .bool (!((y_5.dat.foldE).2))) (cB (cN h_15)) rfl) <| jE <| jB ?_
    rcases Bool.eq_false_or_eq_true ((y_5.dat.foldE).2) with h_16 | h_16
    · refine jR (cB (cN h_16)) <| jT <| jB <| jC <| jF <| jK (jO 0 (vs := [.slice y_10.a y_10.l.length y_10.c, str y_10.jt, iv y_10.js]) rfl rfl ke kd rfl rfl) ?_
      refine jH rfl (jI [] Tryz.call14 rfl (Y_iTrim y_10 hz_12 hl_13) rfl (fun w hw => ⟨hw.seeRows 1 rfl, hw.hex hlow hpre.2⟩)) ?_
      rintro _ _ ⟨_, ⟨y_17, hy_18, rfl, rfl⟩, rfl⟩
      refine jH rfl (ja 5 (vs := [.slice y_17.a y_17.l.length y_17.c, str y_17.jt, iv y_17.js]) (cs' := [.slice y_17.a y_17.l.length y_17.c, str y_17.jt, iv y_17.js]) rfl rfl rfl rfl kd rfl rfl (lb rfl) rfl) ?_
      rintro _ _ rfl
      refine jA (jG (v := .bool true) rfl) <| jE <| jB <| jN <| kC (.inl rfl) rfl (kA (jO 5 (vs := [.slice y_17.a y_17.l.length y_17.c, str y_17.jt, iv y_17.js]) rfl rfl ke kd rfl rfl) ⟨_, rfl⟩) (jJ (v := .bool true) rfl) (tS 1 _) ?_
      have he := folded_yes (d := d.dat) (by constructor <;> simp_all)
      exact ⟨y_17, by rw [he, hy_18]; simp_all, by rw [he], rfl⟩
    refine jW (cB (cN h_16)) <| jC <| jF <| jK (jO 5 (vs := [.slice d.a d.l.length d.c, str d.jt, iv d.js]) rfl rfl ke kd rfl rfl) ?_
    refine jH rfl (jI [] Tryz.call62 rfl (Z_implDiskclone d hl) rfl (fun w hw => hw.seeOutA hpre.1 nMA)) ?_
    rintro _ _ ⟨_, ⟨y_19, hy_20, rfl, rfl⟩, rfl⟩
    refine jH rfl (ja 5 (vs := [.slice y_19.a y_19.l.length y_19.c, str y_19.jt, iv y_19.js]) (cs' := [.slice y_19.a y_19.l.length y_19.c, str y_19.jt, iv y_19.js]) rfl rfl rfl rfl kd rfl rfl (lb rfl) rfl) ?_
    rintro _ _ rfl
    refine jA (jG (v := .bool false) rfl) <| jE <| jB <| jN <| jX <| kC (.inl rfl) rfl (kA (jO 5 (vs := [.slice y_19.a y_19.l.length y_19.c, str y_19.jt, iv y_19.js]) rfl rfl ke kd rfl rfl) ⟨_, rfl⟩) (jJ (v := .bool false) rfl) (tS 1 _) ?_
    have he := folded_no (d := d.dat) (by rintro ⟨h_1, h_2⟩; simp_all)
    exact ⟨y_19, by rw [he, hy_20] <;> first | rfl | exact foldB_back (by assumption), by rw [he], rfl⟩
  refine jS (b := true) rfl rfl rfl (cB (cN h_15)) <| jS (b := true) rfl rfl rfl (cB (cN h_15)) <| jA (jh (v := .bool true) (cB (cN h_15)) rfl) <| jE <| jB <| jW (cB rfl) <| jC <| jF <| jK (jO 5 (vs := [.slice d.a d.l.length d.c, str d.jt, iv d.js]) rfl rfl ke kd rfl rfl) ?_
  refine jH rfl (jI [] Tryz.call62 rfl (Z_implDiskclone d hl) rfl (fun w hw => hw.seeOutA hpre.1 nMA)) ?_
  rintro _ _ ⟨_, ⟨y_21, hy_22, rfl, rfl⟩, rfl⟩
  refine jH rfl (ja 5 (vs := [.slice y_21.a y_21.l.length y_21.c, str y_21.jt, iv y_21.js]) (cs' := [.slice y_21.a y_21.l.length y_21.c, str y_21.jt, iv y_21.js]) rfl rfl rfl rfl kd rfl rfl (lb rfl) rfl) ?_
  rintro _ _ rfl
  refine jA (jG (v := .bool false) rfl) <| jE <| jB <| jN <| jX <| kC (.inl rfl) rfl (kA (jO 5 (vs := [.slice y_21.a y_21.l.length y_21.c, str y_21.jt, iv y_21.js]) rfl rfl ke kd rfl rfl) ⟨_, rfl⟩) (jJ (v := .bool false) rfl) (tS 1 _) ?_
  have he := folded_no (d := d.dat) (by rintro ⟨h_1, h_2⟩; simp_all)
  exact ⟨y_21, by rw [he, hy_22] <;> first | rfl | exact foldB_back (by assumption), by rw [he], rfl⟩

set_option maxRecDepth 4000 in
set_option maxHeartbeats 1000000 in
theorem Y_sOther (d : DX) (hz : d.dat.okz) (hl : d.dat.lim 1000000000) (q : Nat) (hq : bestD d.dat = ((q : Nat) : Int)) (hq2 : q < 2) :
    Ct Tryz.prog 71 [.agg #[.slice d.a d.l.length d.c, str d.jt, .int .i64 d.js]] [] (fun w => SeesA w (rdsD d)) (fun v A' => v = .int .i64 ((1 - q : Nat) : Int) ∧ A' = []) := by
  refine Ct.intro Tryz.func71 rfl Tryz.ntmps71 (lb rfl) fun w0 hpre => ?_
  have hs_1 : Sees w0 (.slice d.a d.l.length d.c) 3 d.l.length (d.l.flatMap encO) := (hpre).head
  have hi_2 : SeesA w0 (d.l.flatMap rdsO) := (hpre).tail
  have hjt := hz.k2
  have hdl : d.l.length ≤ 1000000000 := by have := hl.l0; simpa only [DX.dat, List.length_map] using this
  refine jC <| jF ?_
  refine jH rfl (kG (cs := [.slice d.a d.l.length d.c, str d.jt, iv d.js]) rfl rfl) ?_
  rintro _ _ ⟨b_3, rfl, rfl⟩
  refine jA (jG (v := iv 0) rfl) <| jE <| jB <| jC <| jF <| jK (jO 0 (vs := [.slice d.a d.l.length d.c, str d.jt, iv d.js]) rfl rfl ke kd rfl rfl) ?_
  refine jH rfl (jI [] Tryz.call49 rfl (Y_sBestN d hz (by omega) q hq) rfl (fun w hw => hw.seeOutA hpre nMA)) ?_
  rintro _ _ ⟨_, ⟨rfl, rfl⟩, rfl⟩
  refine jA (kZ (c := ((1 - q : Nat) : Int)) rfl rfl (wr (by omega))) <| jA (jG (v := iv ((1 - q : Nat) : Int)) rfl) <| jE <| jB <| jN <| jV (.inl rfl) rfl (jJ (v := iv ((1 - q : Nat) : Int)) rfl) (List.nil_sublist _) ?_
  exact ⟨rfl, rfl⟩

set_option maxRecDepth 4000 in
set_option maxHeartbeats 1000000 in
theorem Y_sFoldB (d : DX) (hz : d.dat.okz) (hl : d.dat.lim 1000000000) :
    Ct Tryz.prog 20 [.agg #[.slice d.a d.l.length d.c, str d.jt, .int .i64 d.js]] [] (fun w => SeesA w (rdsD d)) (fun v A' => ∃ y : DX, y.dat = d.dat.foldB.1 ∧ v = .tuple #[.agg #[.slice y.a y.l.length y.c, str y.jt, .int .i64 y.js], .bool d.dat.foldB.2] ∧ A' = [.rows (rdsD y)]) := by
  refine Ct.intro Tryz.func20 rfl Tryz.ntmps20 (lb rfl) fun w0 hpre => ?_
  have hs_1 : Sees w0 (.slice d.a d.l.length d.c) 3 d.l.length (d.l.flatMap encO) := (hpre).head
  have hi_2 : SeesA w0 (d.l.flatMap rdsO) := (hpre).tail
  have hjt := hz.k2
  have hdl : d.l.length ≤ 1000000000 := by have := hl.l0; simpa only [DX.dat, List.length_map] using this
  refine jC <| jF ?_
  refine jH rfl (kG (cs := [.slice d.a d.l.length d.c, str d.jt, iv d.js]) rfl rfl) ?_
  rintro _ _ ⟨b_3, rfl, rfl⟩
  refine jH rfl (jo (z := .agg #[.slice none 0 0, str [], iv 0]) (cs := [.slice none 0 0, str [], iv 0]) ko rfl) ?_
  rintro _ _ ⟨b_4, rfl, rfl⟩
  refine jA (jG (v := .bool false) rfl) <| jE <| jB <| jC <| jF <| jK (jO 1 (vs := [.slice d.a d.l.length d.c, str d.jt, iv d.js]) rfl rfl ke kd rfl rfl) ?_
  refine jH rfl (jI [] Tryz.call56 rfl (Z_specl23Copy d hl) rfl (fun w hw => hw.seeOutA hpre nMA)) ?_
  rintro _ _ ⟨_, ⟨y_5, hy_6, rfl, rfl⟩, rfl⟩
  refine jH rfl (ja 2 (vs := [.slice y_5.a y_5.l.length y_5.c, str y_5.jt, iv y_5.js]) (cs' := [.slice y_5.a y_5.l.length y_5.c, str y_5.jt, iv y_5.js]) rfl rfl rfl rfl kd rfl rfl (lb rfl) rfl) ?_
  rintro _ _ rfl
  refine jE <| jB <| jC ?_
  have hzy : y_5.dat.okz := by rw [hy_6]; exact hz
  have hly : y_5.dat.lim 1000000000 := by rw [hy_6]; exact hl
  have hyl : y_5.l.length = d.l.length := by have e_ := congrArg (fun q : DD => q.slots.length) hy_6; simpa only [DX.dat, List.length_map] using e_
  have hyt : y_5.jt = d.jt := congrArg DD.jt hy_6
  have hytl : y_5.jt.length = d.jt.length := by rw [hyt]
  refine jF <| jK (jO 2 (vs := [.slice y_5.a y_5.l.length y_5.c, str y_5.jt, iv y_5.js]) rfl rfl ke kd rfl rfl) ?_
  refine jH rfl (jI [] Tryz.call43 rfl (Y_sRecov y_5 hzy hly) rfl (fun w hw => hw.seeRows 0 rfl)) ?_
  rintro _ _ ⟨_, ⟨a_7, c_8, rfl, rfl⟩, rfl⟩
  refine jA (jD (v := .tuple #[.slice a_7 y_5.dat.recov.1.length c_8, iv y_5.dat.recov.2]) rfl) <| jA (je (v := .slice a_7 y_5.dat.recov.1.length c_8) rfl rfl) <| jA (je (v := iv y_5.dat.recov.2) rfl rfl) <| jA (jG (v := .slice a_7 y_5.dat.recov.1.length c_8) rfl) <| jA (jG (v := iv y_5.dat.recov.2) rfl) <| jE <| jB <| jC <| jC <| kT (L' := [Res.row (.slice y_5.a y_5.l.length y_5.c) 60 3 y_5.l.length (y_5.l.flatMap encO), Res.rows (y_5.l.flatMap rdsO), rC a_7 c_8 y_5.dat.recov.1, bk b_4 31 [.slice none 0 0, str [], iv 0], bk b_3 31 [.slice y_5.a y_5.l.length y_5.c, str y_5.jt, iv y_5.js]]) (fun w hw => hw.headR (r := ⟨.slice y_5.a y_5.l.length y_5.c, 60, 3, y_5.l.length, y_5.l.flatMap encO⟩) (A := y_5.l.flatMap rdsO) 1 rfl) ?_
  refine kJ [Res.row (.slice y_5.a y_5.l.length y_5.c) 60 3 y_5.l.length (y_5.l.flatMap encO), Res.rows (y_5.l.flatMap rdsO), rC a_7 c_8 y_5.dat.recov.1, bk b_4 31 [.slice none 0 0, str [], iv 0], bk b_3 31 [.slice y_5.a y_5.l.length y_5.c, str y_5.jt, iv y_5.js]] 1000 mixed (by simp) <| jw 0 rfl (jO 4 (vs := [.slice y_5.a y_5.l.length y_5.c, str y_5.jt, iv y_5.js]) rfl rfl ke kd rfl rfl) <| jj (i := 1) ?_
  refine jz rfl rfl (jI [] Tryz.call42 rfl (Y_specDiskOk y_5 hzy (by omega)) rfl (fun w hw => SeesA.cons (hw.see (i := 0) rfl) (hw.seeRows 1 rfl))) ?_
  rintro _ _ ⟨_, ⟨rfl, rfl⟩, rfl⟩
  refine ⟨by simp, ?_⟩
  refine jL 2 rfl (jp rfl) <| jL 3 rfl (jD (v := .bool (!(diskOk y_5.dat))) rfl) ?_
  rcases Bool.eq_false_or_eq_true (diskOk y_5.dat) with h_9 | h_9
  · obtain ⟨q, hq, hql⟩ := diskOk_best h_9
    have hql : q < y_5.l.length := by simpa only [DX.dat, List.length_map] using hql
    have hjr := diskOk_jour h_9
    have hjr2 : ((y_5.jt.length : Nat) : Int) ≤ 20000 ∧ 0 ≤ y_5.js ∧ y_5.js ≤ ((y_5.jt.length : Nat) : Int) := by have h_ : jourOk y_5.jt y_5.js = true := hjr; simpa only [jourOk, within, Bool.and_eq_true, decide_eq_true_eq, and_assoc] using h_
    have hmost : (y_5.l.getD q o0).t.seq = mostOf y_5.dat := by rw [mostOf, hq, Int.toNat_natCast]; exact congrArg SD.seq getD_map'.symm
    have hmr := most_range h_9
    have hl2 := disk_two h_9
    refine jg 4 rfl (by kernel_rfl) (NP.th (NP.th NP.body)) (by kernel_rfl) (by kernel_rfl) rfl rfl rfl (cB (cN h_9)) (jD (v := iv y_5.dat.recov.2) rfl) <| jg 5 rfl (by kernel_rfl) (NP.th (NP.th NP.body)) (by kernel_rfl) (by kernel_rfl) rfl rfl rfl (cB (cN h_9)) (kR rfl rfl) <| jL 6 rfl (ji (v := .bool (decide (99999 < y_5.dat.recov.2))) (cB (cN h_9)) rfl) <| jL 7 rfl (jD (v := .bool (decide (99999 < y_5.dat.recov.2))) rfl) ?_
    by_cases h_10 : 99999 < y_5.dat.recov.2
    · refine jd 8 (b := true) rfl (by kernel_rfl) (NP.th (NP.th NP.body)) (by kernel_rfl) (by kernel_rfl) rfl rfl rfl (cB (dT h_10)) <| jd 9 (b := true) rfl (by kernel_rfl) (NP.th (NP.th NP.body)) (by kernel_rfl) (by kernel_rfl) rfl rfl rfl (cB (dT h_10)) <| jd 10 (b := true) rfl (by kernel_rfl) (NP.th (NP.th NP.body)) (by kernel_rfl) (by kernel_rfl) rfl rfl rfl (cB (dT h_10)) <| jd 11 (b := true) rfl (by kernel_rfl) (NP.th (NP.th NP.body)) (by kernel_rfl) (by kernel_rfl) rfl rfl rfl (cB (dT h_10)) <| jd 12 (b := true) rfl (by kernel_rfl) (NP.th (NP.th NP.body)) (by kernel_rfl) (by kernel_rfl) rfl rfl rfl (cB (dT h_10)) <| jd 13 (b := true) rfl (by kernel_rfl) (NP.th (NP.th NP.body)) (by kernel_rfl) (by kernel_rfl) rfl rfl rfl (cB (dT h_10)) <| jd 14 (b := true) rfl (by kernel_rfl) (NP.th (NP.th NP.body)) (by kernel_rfl) (by kernel_rfl) rfl rfl rfl (cB (dT h_10)) <| jd 15 (b := true) rfl (by kernel_rfl) (NP.th (NP.th NP.body)) (by kernel_rfl) (by kernel_rfl) rfl rfl rfl (cB (dT h_10)) <| jd 16 (b := true) rfl (by kernel_rfl) (NP.th (NP.th NP.body)) (by kernel_rfl) (by kernel_rfl) rfl rfl rfl (cB (dT h_10)) <| jL 17 rfl (jh (v := .bool true) (cB (dT h_10)) rfl) ?_
      refine kI (by kernel_rfl) <| jB <| jW (cB rfl) <| jC <| jF <| jK (jO 4 (vs := [.slice y_5.a y_5.l.length y_5.c, str y_5.jt, iv y_5.js]) rfl rfl ke kd rfl rfl) ?_
      refine jH rfl (ja 3 (vs := [.slice y_5.a y_5.l.length y_5.c, str y_5.jt, iv y_5.js]) (cs' := [.slice y_5.a y_5.l.length y_5.c, str y_5.jt, iv y_5.js]) rfl rfl rfl rfl kd rfl rfl (lb rfl) rfl) ?_
      rintro _ _ rfl
      refine jA (jG (v := .bool false) rfl) <| jE <| jB <| jN <| jX <| ju (L' := [Res.rows (rdsOS y_5.a y_5.c y_5.l), rC a_7 c_8 y_5.dat.recov.1, bk b_4 31 [.slice y_5.a y_5.l.length y_5.c, str y_5.jt, iv y_5.js], bk b_3 31 [.slice y_5.a y_5.l.length y_5.c, str y_5.jt, iv y_5.js]]) (fun w hw => hw.consR (r := ⟨.slice y_5.a y_5.l.length y_5.c, 60, 3, y_5.l.length, y_5.l.flatMap encO⟩) (A := y_5.l.flatMap rdsO) [0, 0] rfl) <| kC (.inl rfl) rfl (kA (jO 2 (vs := [.slice y_5.a y_5.l.length y_5.c, str y_5.jt, iv y_5.js]) rfl rfl ke kd rfl rfl) ⟨_, rfl⟩) (jJ (v := .bool false) rfl) (tS 1 _) ?_
      have he := foldB_no (d := y_5.dat) (by rintro ⟨h_1, h_2⟩; first | omega | simp_all)
      rw [hy_6] at he
      exact ⟨y_5, (hy_6).trans (congrArg Prod.fst he).symm, by rw [he], rfl⟩
    refine jg 8 rfl (by kernel_rfl) (NP.th (NP.th NP.body)) (by kernel_rfl) (by kernel_rfl) rfl rfl rfl (cB (dF h_10)) (jD (v := iv y_5.dat.recov.2) rfl) <| jg 9 rfl (by kernel_rfl) (NP.th (NP.th NP.body)) (by kernel_rfl) (by kernel_rfl) rfl rfl rfl (cB (dF h_10)) (jQ fo31_0 rfl) <| kK 10 rfl (by kernel_rfl) (NP.th (NP.th NP.body)) (by kernel_rfl) (by kernel_rfl) (by kernel_rfl) rfl rfl rfl (cB (dF h_10)) (jZ 4 (v := .slice y_5.a y_5.l.length y_5.c) rfl rfl ks rfl) <| kK 11 rfl (by kernel_rfl) (NP.th (NP.th NP.body)) (by kernel_rfl) (by kernel_rfl) (by kernel_rfl) rfl rfl rfl (cB (dF h_10)) (jO 4 (vs := [.slice y_5.a y_5.l.length y_5.c, str y_5.jt, iv y_5.js]) rfl rfl ke kd rfl rfl) <| jj (i := 12) ?_
    refine kQ rfl rfl rfl rfl (cB (dF h_10)) (jI [] Tryz.call49 rfl (Y_sBestN y_5 hzy (by omega) q hq) rfl (fun w hw => SeesA.cons (hw.see (i := 0) rfl) (hw.seeRows 1 rfl))) ?_
    rintro _ _ ⟨_, ⟨rfl, rfl⟩, rfl⟩
    refine ⟨by simp, ?_⟩
    refine JA.facts fun hst => ?_
    obtain ⟨hr_11, hr_11b, -⟩ := row_some 0 rfl (by omega) hst
    refine jg 13 rfl (by kernel_rfl) (NP.th (NP.th NP.body)) (by kernel_rfl) (by kernel_rfl) rfl rfl rfl (cB (dF h_10)) (jk (i := q) km kj hr_11 hr_11b rfl rfl (by omega)) <| jg 14 rfl (by kernel_rfl) (NP.th (NP.th NP.body)) (by kernel_rfl) (by kernel_rfl) rfl rfl rfl (cB (dF h_10)) (kL fo60_0 hr_11 rfl) <| kK 15 rfl (by kernel_rfl) (NP.th (NP.th NP.body)) (by kernel_rfl) (by kernel_rfl) (by kernel_rfl) rfl rfl rfl (cB (dF h_10)) (ka 0 (v := iv ((y_5.l.getD q o0).t.seq)) rfl rfl kq (flat_at encO_len o0 y_5.l q 0 (by omega) (by decide))) <| jg 16 rfl (by kernel_rfl) (NP.th (NP.th NP.body)) (by kernel_rfl) (by kernel_rfl) rfl rfl rfl (cB (dF h_10)) (kO rfl rfl) <| jL 17 rfl (ji (v := .bool (decide (y_5.dat.recov.2 = ((y_5.l.getD q o0).t.seq)))) (cB (dF h_10)) rfl) <| kI (by kernel_rfl) <| jB ?_
    by_cases h_12 : y_5.dat.recov.2 = ((y_5.l.getD q o0).t.seq)
    · refine jW (cB (dT h_12)) <| jC <| jF <| jK (jO 4 (vs := [.slice y_5.a y_5.l.length y_5.c, str y_5.jt, iv y_5.js]) rfl rfl ke kd rfl rfl) ?_
      refine jH rfl (ja 3 (vs := [.slice y_5.a y_5.l.length y_5.c, str y_5.jt, iv y_5.js]) (cs' := [.slice y_5.a y_5.l.length y_5.c, str y_5.jt, iv y_5.js]) rfl rfl rfl rfl kd rfl rfl (lb rfl) rfl) ?_
      rintro _ _ rfl
      refine jA (jG (v := .bool false) rfl) <| jE <| jB <| jN <| jX <| ju (L' := [Res.rows (rdsOS y_5.a y_5.c y_5.l), rC a_7 c_8 y_5.dat.recov.1, bk b_4 31 [.slice y_5.a y_5.l.length y_5.c, str y_5.jt, iv y_5.js], bk b_3 31 [.slice y_5.a y_5.l.length y_5.c, str y_5.jt, iv y_5.js]]) (fun w hw => hw.consR (r := ⟨.slice y_5.a y_5.l.length y_5.c, 60, 3, y_5.l.length, y_5.l.flatMap encO⟩) (A := y_5.l.flatMap rdsO) [0, 0] rfl) <| kC (.inl rfl) rfl (kA (jO 2 (vs := [.slice y_5.a y_5.l.length y_5.c, str y_5.jt, iv y_5.js]) rfl rfl ke kd rfl rfl) ⟨_, rfl⟩) (jJ (v := .bool false) rfl) (tS 1 _) ?_
      have he := foldB_no (d := y_5.dat) (by rintro ⟨h_1, h_2⟩; first | omega | simp_all)
      rw [hy_6] at he
      exact ⟨y_5, (hy_6).trans (congrArg Prod.fst he).symm, by rw [he], rfl⟩
    refine jR (cB (dF h_12)) <| jT <| jB <| jC <| jF <| jK (jO 4 (vs := [.slice y_5.a y_5.l.length y_5.c, str y_5.jt, iv y_5.js]) rfl rfl ke kd rfl rfl) ?_
    refine jH rfl (jI [] Tryz.call18 rfl (Y_sClean y_5 hzy hly) rfl (fun w hw => SeesA.cons (hw.see (i := 0) rfl) (hw.seeRows 1 rfl))) ?_
    rintro _ _ ⟨_, ⟨y_13, hy_14, rfl, rfl⟩, rfl⟩
    refine jA (PO.fieldK (vs := [str y_13.jt, iv y_13.js]) Tryz.underlying31 rfl rfl kp kl (by kernel_rfl)) <| jA (jQ fo31_1 rfl) ?_
    refine jH rfl (ja 5 (vs := [str y_13.jt, iv y_13.js]) (cs' := [.slice y_5.a y_5.l.length y_5.c, str y_13.jt, iv y_13.js]) rfl rfl rfl rfl kl rfl rfl (lb rfl) rfl) ?_
    rintro _ _ rfl
    refine jE <| jB <| jC ?_
    have hzc : y_13.dat.okz := by rw [hy_14]; exact clean_okz hzy
    have hzl : y_5.l.length = 2 := disk_two h_9
    refine kJ [Res.rows (rdsD y_13), Res.row (.slice y_5.a y_5.l.length y_5.c) 60 3 y_5.l.length (y_5.l.flatMap encO), Res.rows (y_5.l.flatMap rdsO), rC a_7 c_8 y_5.dat.recov.1, bk b_4 31 [.slice none 0 0, str [], iv 0], bk b_3 31 [.slice y_5.a y_5.l.length y_5.c, str y_13.jt, iv y_13.js]] 7 mixed (by simp) <| jL 0 rfl (jQ fo31_0 rfl) <| jw 1 rfl (jZ 5 (v := .slice y_5.a y_5.l.length y_5.c) rfl rfl ks rfl) <| jw 2 rfl (jO 5 (vs := [.slice y_5.a y_5.l.length y_5.c, str y_13.jt, iv y_13.js]) rfl rfl ke kd rfl rfl) <| jL 4 rfl (jD (v := iv y_5.dat.recov.2) rfl) <| jL 5 rfl (jD (v := .slice a_7 y_5.dat.recov.1.length c_8) rfl) <| jL 6 rfl (kW (ps := [(0, iv y_5.dat.recov.2), (1, .slice a_7 y_5.dat.recov.1.length c_8)]) (cs := [iv y_5.dat.recov.2, .slice a_7 y_5.dat.recov.1.length c_8, .bool false]) rfl (by kernel_rfl)) <| jj (i := 3) ?_
    refine jz rfl rfl (jI [] Tryz.call71 rfl (Y_sOther (⟨y_5.a, y_5.c, y_5.l, y_13.jt, y_13.js⟩ : DX) ⟨hzy.k0, hzy.k1, hzc.k2⟩ ⟨hly.l0, hly.l1⟩ q hq (by omega)) rfl (fun w hw => SeesA.cons (hw.see (i := 1) rfl) (hw.seeRows 2 rfl))) ?_
    rintro _ _ ⟨_, ⟨rfl, rfl⟩, rfl⟩
    refine ⟨by simp, ?_⟩
    refine jL 7 rfl (jk (i := (1 - q)) km kj hr_11 hr_11b rfl rfl (by omega)) <| jj (i := 8) ?_
    refine JX.ls rfl (JO.storeR 1 (vs := [iv y_5.dat.recov.2, .slice a_7 y_5.dat.recov.1.length c_8, .bool false]) (cs' := (y_5.l.set (1 - q) (⟨⟨a_7, c_8⟩, ⟨y_5.dat.recov.2, y_5.dat.recov.1, false⟩⟩ : OX)).flatMap encO) rfl rfl rfl rfl kj rfl rfl (by decide) (by rw [flat_length encO_len]; omega) (flat_set encO_len y_5.l (1 - q) (⟨⟨a_7, c_8⟩, ⟨y_5.dat.recov.2, y_5.dat.recov.1, false⟩⟩ : OX) (by omega))) ?_
    rintro _ _ rfl
    refine jB <| jC <| jF <| jK (jO 5 (vs := [.slice y_5.a y_5.l.length y_5.c, str y_13.jt, iv y_13.js]) rfl rfl ke kd rfl rfl) ?_
    refine jH rfl (ja 4 (vs := [.slice y_5.a y_5.l.length y_5.c, str y_13.jt, iv y_13.js]) (cs' := [.slice y_5.a y_5.l.length y_5.c, str y_13.jt, iv y_13.js]) rfl rfl rfl rfl kd rfl rfl (lb rfl) rfl) ?_
    rintro _ _ rfl
    refine jA (jG (v := .bool true) rfl) <| jE <| jB <| jN ?_
    have hi1 : 1 - q < y_5.l.length := by omega
    refine ju (L' := [Res.rows ((y_5.l.take (1 - q)).flatMap rdsO), Res.rows (rdsO (y_5.l.getD (1 - q) o0)), Res.rows ((y_5.l.drop (1 - q + 1)).flatMap rdsO), Res.rows (rdsD y_13), Res.row (.slice y_5.a y_5.l.length y_5.c) 60 3 y_5.l.length ((y_5.l.set (1 - q) (⟨⟨a_7, c_8⟩, ⟨y_5.dat.recov.2, y_5.dat.recov.1, false⟩⟩ : OX)).flatMap encO), rC a_7 c_8 y_5.dat.recov.1, bk b_4 31 [.slice y_5.a y_5.l.length y_5.c, str y_13.jt, iv y_13.js], bk b_3 31 [.slice y_5.a y_5.l.length y_5.c, str y_13.jt, iv y_13.js]]) (fun w hw => hw.splitR 2 rfl (flatMap_at o0 hi1)) <| ju (L' := [Res.rows (rdsO (⟨⟨a_7, c_8⟩, ⟨y_5.dat.recov.2, y_5.dat.recov.1, false⟩⟩ : OX)), Res.rows ((y_5.l.take (1 - q)).flatMap rdsO), Res.rows (rdsO (y_5.l.getD (1 - q) o0)), Res.rows ((y_5.l.drop (1 - q + 1)).flatMap rdsO), Res.rows (rdsD y_13), Res.row (.slice y_5.a y_5.l.length y_5.c) 60 3 y_5.l.length ((y_5.l.set (1 - q) (⟨⟨a_7, c_8⟩, ⟨y_5.dat.recov.2, y_5.dat.recov.1, false⟩⟩ : OX)).flatMap encO), bk b_4 31 [.slice y_5.a y_5.l.length y_5.c, str y_13.jt, iv y_13.js], bk b_3 31 [.slice y_5.a y_5.l.length y_5.c, str y_13.jt, iv y_13.js]]) (fun w hw => hw.closeR (A := rdsO (⟨⟨a_7, c_8⟩, ⟨y_5.dat.recov.2, y_5.dat.recov.1, false⟩⟩ : OX)) [5] rfl) <| ju (L' := [Res.rows ((y_5.l.set (1 - q) (⟨⟨a_7, c_8⟩, ⟨y_5.dat.recov.2, y_5.dat.recov.1, false⟩⟩ : OX)).flatMap rdsO), Res.rows (rdsO (y_5.l.getD (1 - q) o0)), Res.rows (rdsD y_13), Res.row (.slice y_5.a y_5.l.length y_5.c) 60 3 y_5.l.length ((y_5.l.set (1 - q) (⟨⟨a_7, c_8⟩, ⟨y_5.dat.recov.2, y_5.dat.recov.1, false⟩⟩ : OX)).flatMap encO), bk b_4 31 [.slice y_5.a y_5.l.length y_5.c, str y_13.jt, iv y_13.js], bk b_3 31 [.slice y_5.a y_5.l.length y_5.c, str y_13.jt, iv y_13.js]]) (fun w hw => hw.joinR [1, 0, 1] rfl (flatMap_setAt hi1)) <| ju (L' := [Res.rows ((y_5.l.set (1 - q) (⟨⟨a_7, c_8⟩, ⟨y_5.dat.recov.2, y_5.dat.recov.1, false⟩⟩ : OX)).flatMap rdsO), Res.rows (rdsO (y_5.l.getD (1 - q) o0)), Res.rows (rdsD y_13), Res.row (.slice y_5.a ((y_5.l.set (1 - q) (⟨⟨a_7, c_8⟩, ⟨y_5.dat.recov.2, y_5.dat.recov.1, false⟩⟩ : OX)).length) y_5.c) 60 3 ((y_5.l.set (1 - q) (⟨⟨a_7, c_8⟩, ⟨y_5.dat.recov.2, y_5.dat.recov.1, false⟩⟩ : OX)).length) ((y_5.l.set (1 - q) (⟨⟨a_7, c_8⟩, ⟨y_5.dat.recov.2, y_5.dat.recov.1, false⟩⟩ : OX)).flatMap encO), bk b_4 31 [.slice y_5.a y_5.l.length y_5.c, str y_13.jt, iv y_13.js], bk b_3 31 [.slice y_5.a y_5.l.length y_5.c, str y_13.jt, iv y_13.js]]) (fun w hw => hw.eqL (by simp only [List.length_set])) <| ju (L' := [Res.rows (rdsOS y_5.a y_5.c (y_5.l.set (1 - q) (⟨⟨a_7, c_8⟩, ⟨y_5.dat.recov.2, y_5.dat.recov.1, false⟩⟩ : OX))), Res.rows (rdsO (y_5.l.getD (1 - q) o0)), Res.rows (rdsD y_13), bk b_4 31 [.slice y_5.a y_5.l.length y_5.c, str y_13.jt, iv y_13.js], bk b_3 31 [.slice y_5.a y_5.l.length y_5.c, str y_13.jt, iv y_13.js]]) (fun w hw => hw.consR (r := ⟨.slice y_5.a ((y_5.l.set (1 - q) (⟨⟨a_7, c_8⟩, ⟨y_5.dat.recov.2, y_5.dat.recov.1, false⟩⟩ : OX)).length) y_5.c, 60, 3, (y_5.l.set (1 - q) (⟨⟨a_7, c_8⟩, ⟨y_5.dat.recov.2, y_5.dat.recov.1, false⟩⟩ : OX)).length, (y_5.l.set (1 - q) (⟨⟨a_7, c_8⟩, ⟨y_5.dat.recov.2, y_5.dat.recov.1, false⟩⟩ : OX)).flatMap encO⟩) (A := (y_5.l.set (1 - q) (⟨⟨a_7, c_8⟩, ⟨y_5.dat.recov.2, y_5.dat.recov.1, false⟩⟩ : OX)).flatMap rdsO) [3, 0] rfl) <| kC (.inl rfl) rfl (kA (jO 3 (vs := [.slice y_5.a y_5.l.length y_5.c, str y_13.jt, iv y_13.js]) rfl rfl ke kd rfl rfl) ⟨_, rfl⟩) (jJ (v := .bool true) rfl) (tS 1 _) ?_
    have he := foldB_yes (d := y_5.dat) ⟨h_9, by omega, by omega⟩
    have hc := hy_14
    rw [DD.clean, if_pos h_9] at hc
    have hf := (congrArg Prod.fst he).symm
    refine ⟨(⟨y_5.a, y_5.c, y_5.l.set (1 - q) (⟨⟨a_7, c_8⟩, ⟨y_5.dat.recov.2, y_5.dat.recov.1, false⟩⟩ : OX), y_13.jt, y_13.js⟩ : DX), ?_, by simp only [← hy_6, he, List.length_set], rfl⟩
    rw [← hy_6, he]
    exact fold_dat rfl (congrArg DD.jt hc) (congrArg DD.js hc) hq rfl
  refine jd 4 (b := true) rfl (by kernel_rfl) (NP.th (NP.th NP.body)) (by kernel_rfl) (by kernel_rfl) rfl rfl rfl (cB (cN h_9)) <| jd 5 (b := true) rfl (by kernel_rfl) (NP.th (NP.th NP.body)) (by kernel_rfl) (by kernel_rfl) rfl rfl rfl (cB (cN h_9)) <| jL 6 rfl (jh (v := .bool true) (cB (cN h_9)) rfl) <| jL 7 rfl (jD (v := .bool true) rfl) <| jd 8 (b := true) rfl (by kernel_rfl) (NP.th (NP.th NP.body)) (by kernel_rfl) (by kernel_rfl) rfl rfl rfl (cB rfl) <| jd 9 (b := true) rfl (by kernel_rfl) (NP.th (NP.th NP.body)) (by kernel_rfl) (by kernel_rfl) rfl rfl rfl (cB rfl) <| jd 10 (b := true) rfl (by kernel_rfl) (NP.th (NP.th NP.body)) (by kernel_rfl) (by kernel_rfl) rfl rfl rfl (cB rfl) <| jd 11 (b := true) rfl (by kernel_rfl) (NP.th (NP.th NP.body)) (by kernel_rfl) (by kernel_rfl) rfl rfl rfl (cB rfl) <| jd 12 (b := true) rfl (by kernel_rfl) (NP.th (NP.th NP.body)) (by kernel_rfl) (by kernel_rfl) rfl rfl rfl (cB rfl) <| jd 13 (b := true) rfl (by kernel_rfl) (NP.th (NP.th NP.body)) (by kernel_rfl) (by kernel_rfl) rfl rfl rfl (cB rfl) ?_
  refine jd 14 (b := true) rfl (by kernel_rfl) (NP.th (NP.th NP.body)) (by kernel_rfl) (by kernel_rfl) rfl rfl rfl (cB rfl) <| jd 15 (b := true) rfl (by kernel_rfl) (NP.th (NP.th NP.body)) (by kernel_rfl) (by kernel_rfl) rfl rfl rfl (cB rfl) <| jd 16 (b := true) rfl (by kernel_rfl) (NP.th (NP.th NP.body)) (by kernel_rfl) (by kernel_rfl) rfl rfl rfl (cB rfl) <| jL 17 rfl (jh (v := .bool true) (cB rfl) rfl) <| kI (by kernel_rfl) <| jB <| jW (cB rfl) <| jC <| jF <| jK (jO 4 (vs := [.slice y_5.a y_5.l.length y_5.c, str y_5.jt, iv y_5.js]) rfl rfl ke kd rfl rfl) ?_
  refine jH rfl (ja 3 (vs := [.slice y_5.a y_5.l.length y_5.c, str y_5.jt, iv y_5.js]) (cs' := [.slice y_5.a y_5.l.length y_5.c, str y_5.jt, iv y_5.js]) rfl rfl rfl rfl kd rfl rfl (lb rfl) rfl) ?_
  rintro _ _ rfl
  refine jA (jG (v := .bool false) rfl) <| jE <| jB <| jN <| jX <| ju (L' := [Res.rows (rdsOS y_5.a y_5.c y_5.l), rC a_7 c_8 y_5.dat.recov.1, bk b_4 31 [.slice y_5.a y_5.l.length y_5.c, str y_5.jt, iv y_5.js], bk b_3 31 [.slice y_5.a y_5.l.length y_5.c, str y_5.jt, iv y_5.js]]) (fun w hw => hw.consR (r := ⟨.slice y_5.a y_5.l.length y_5.c, 60, 3, y_5.l.length, y_5.l.flatMap encO⟩) (A := y_5.l.flatMap rdsO) [0, 0] rfl) <| kC (.inl rfl) rfl (kA (jO 2 (vs := [.slice y_5.a y_5.l.length y_5.c, str y_5.jt, iv y_5.js]) rfl rfl ke kd rfl rfl) ⟨_, rfl⟩) (jJ (v := .bool false) rfl) (tS 1 _) ?_
  have he := foldB_no (d := y_5.dat) (by rintro ⟨h_1, h_2⟩; first | omega | simp_all)
  rw [hy_6] at he
  exact ⟨y_5, (hy_6).trans (congrArg Prod.fst he).symm, by rw [he], rfl⟩

set_option maxRecDepth 4000 in
set_option maxHeartbeats 1000000 in
theorem Y_sFoldE (d : DX) (hz : d.dat.okz) (hl : d.dat.lim 1000000000) :
    Ct Tryz.prog 38 [.agg #[.slice d.a d.l.length d.c, str d.jt, .int .i64 d.js]] [] (fun w => SeesA w (rdsD d)) (fun v A' => ∃ y : DX, y.dat = d.dat.foldE.1 ∧ v = .tuple #[.agg #[.slice y.a y.l.length y.c, str y.jt, .int .i64 y.js], .bool d.dat.foldE.2] ∧ A' = [.rows (rdsD y)]) := by
  refine Ct.intro Tryz.func38 rfl Tryz.ntmps38 (lb rfl) fun w0 hpre => ?_
  have hs_1 : Sees w0 (.slice d.a d.l.length d.c) 3 d.l.length (d.l.flatMap encO) := (hpre).head
  have hi_2 : SeesA w0 (d.l.flatMap rdsO) := (hpre).tail
  have hjt := hz.k2
  have hdl : d.l.length ≤ 1000000000 := by have := hl.l0; simpa only [DX.dat, List.length_map] using this
  refine jC <| jF ?_
  refine jH rfl (kG (cs := [.slice d.a d.l.length d.c, str d.jt, iv d.js]) rfl rfl) ?_
  rintro _ _ ⟨b_3, rfl, rfl⟩
  refine jH rfl (jo (z := .agg #[.slice none 0 0, str [], iv 0]) (cs := [.slice none 0 0, str [], iv 0]) ko rfl) ?_
  rintro _ _ ⟨b_4, rfl, rfl⟩
  refine jA (jG (v := .bool false) rfl) <| jE <| jB <| jC <| jF <| jK (jO 1 (vs := [.slice d.a d.l.length d.c, str d.jt, iv d.js]) rfl rfl ke kd rfl rfl) ?_
  refine jH rfl (jI [] Tryz.call56 rfl (Z_specl23Copy d hl) rfl (fun w hw => hw.seeOutA hpre nMA)) ?_
  rintro _ _ ⟨_, ⟨y_5, hy_6, rfl, rfl⟩, rfl⟩
  refine jH rfl (ja 2 (vs := [.slice y_5.a y_5.l.length y_5.c, str y_5.jt, iv y_5.js]) (cs' := [.slice y_5.a y_5.l.length y_5.c, str y_5.jt, iv y_5.js]) rfl rfl rfl rfl kd rfl rfl (lb rfl) rfl) ?_
  rintro _ _ rfl
  refine jE <| jB <| jC <| jC ?_
  have hzy : y_5.dat.okz := by rw [hy_6]; exact hz
  have hly : y_5.dat.lim 1000000000 := by rw [hy_6]; exact hl
  have hyl : y_5.l.length = d.l.length := by have e_ := congrArg (fun q : DD => q.slots.length) hy_6; simpa only [DX.dat, List.length_map] using e_
  have hyt : y_5.jt = d.jt := congrArg DD.jt hy_6
  have hytl : y_5.jt.length = d.jt.length := by rw [hyt]
  refine jF <| jK (jO 2 (vs := [.slice y_5.a y_5.l.length y_5.c, str y_5.jt, iv y_5.js]) rfl rfl ke kd rfl rfl) ?_
  refine jH rfl (jI [] Tryz.call42 rfl (Y_specDiskOk y_5 hzy (by omega)) rfl (fun w hw => hw.seeRows 0 rfl)) ?_
  rintro _ _ ⟨_, ⟨rfl, rfl⟩, rfl⟩
  refine jA (jp rfl) <| jE <| jB ?_
  rcases Bool.eq_false_or_eq_true (diskOk y_5.dat) with h_7 | h_7
  · obtain ⟨q, hq, hql⟩ := diskOk_best h_7
    have hql : q < y_5.l.length := by simpa only [DX.dat, List.length_map] using hql
    have hjr := diskOk_jour h_7
    have hjr2 : ((y_5.jt.length : Nat) : Int) ≤ 20000 ∧ 0 ≤ y_5.js ∧ y_5.js ≤ ((y_5.jt.length : Nat) : Int) := by have h_ : jourOk y_5.jt y_5.js = true := hjr; simpa only [jourOk, within, Bool.and_eq_true, decide_eq_true_eq, and_assoc] using h_
    have hmost : (y_5.l.getD q o0).t.seq = mostOf y_5.dat := by rw [mostOf, hq, Int.toNat_natCast]; exact congrArg SD.seq getD_map'.symm
    have hmr := most_range h_7
    have hl2 := disk_two h_7
    refine jR (cB (cN h_7)) <| jT <| jB <| jC <| jF <| jK (jO 2 (vs := [.slice y_5.a y_5.l.length y_5.c, str y_5.jt, iv y_5.js]) rfl rfl ke kd rfl rfl) ?_
    refine jH rfl (jI [] Tryz.call71 rfl (Y_sOther y_5 hzy hly q hq (by omega)) rfl (fun w hw => hw.seeRows 0 rfl)) ?_
    rintro _ _ ⟨_, ⟨rfl, rfl⟩, rfl⟩
    refine jA (jG (v := iv ((1 - q : Nat) : Int)) rfl) <| jE <| jB <| jC <| kT (L' := [Res.row (.slice y_5.a y_5.l.length y_5.c) 60 3 y_5.l.length (y_5.l.flatMap encO), Res.rows (y_5.l.flatMap rdsO), bk b_4 31 [.slice none 0 0, str [], iv 0], bk b_3 31 [.slice y_5.a y_5.l.length y_5.c, str y_5.jt, iv y_5.js]]) (fun w hw => hw.headR (r := ⟨.slice y_5.a y_5.l.length y_5.c, 60, 3, y_5.l.length, y_5.l.flatMap encO⟩) (A := y_5.l.flatMap rdsO) 0 rfl) <| jF <| jA (jQ fo31_0 rfl) <| jK (jZ 3 (v := .slice y_5.a y_5.l.length y_5.c) rfl rfl ks rfl) <| jA (jD (v := iv ((1 - q : Nat) : Int)) rfl) ?_
    refine kN fun hst => ?_
    obtain ⟨hr_8, hr_8b, -⟩ := row_some 0 rfl (by omega) hst
    refine jA (jk (i := (1 - q)) km kj hr_8 hr_8b rfl rfl (by omega)) <| jK (LO.loadRK 0 (vs := [iv ((y_5.l.getD (1 - q) o0).t.seq), .slice ((y_5.l.getD (1 - q) o0).x.a0) ((y_5.l.getD (1 - q) o0).t.cells.length) ((y_5.l.getD (1 - q) o0).x.c0), .bool ((y_5.l.getD (1 - q) o0).t.whole)]) rfl rfl gB kj (flat_take encO_len o0 y_5.l (1 - q) (by omega)) rfl (by decide)) ?_
    refine jH rfl (jo (z := .agg #[iv 0, .slice none 0 0, .bool false]) (cs := [iv 0, .slice none 0 0, .bool false]) gD rfl) ?_
    rintro _ _ ⟨b_9, rfl, rfl⟩
    refine jH rfl (ja 0 (vs := [iv ((y_5.l.getD (1 - q) o0).t.seq), .slice ((y_5.l.getD (1 - q) o0).x.a0) ((y_5.l.getD (1 - q) o0).t.cells.length) ((y_5.l.getD (1 - q) o0).x.c0), .bool ((y_5.l.getD (1 - q) o0).t.whole)]) (cs' := [iv ((y_5.l.getD (1 - q) o0).t.seq), .slice ((y_5.l.getD (1 - q) o0).x.a0) ((y_5.l.getD (1 - q) o0).t.cells.length) ((y_5.l.getD (1 - q) o0).x.c0), .bool ((y_5.l.getD (1 - q) o0).t.whole)]) rfl rfl rfl rfl kj rfl rfl (lb rfl) rfl) ?_
    rintro _ _ rfl
    refine jE <| jB <| jC <| jC <| kJ [bk b_9 60 [iv ((y_5.l.getD (1 - q) o0).t.seq), .slice ((y_5.l.getD (1 - q) o0).x.a0) ((y_5.l.getD (1 - q) o0).t.cells.length) ((y_5.l.getD (1 - q) o0).x.c0), .bool ((y_5.l.getD (1 - q) o0).t.whole)], Res.row (.slice y_5.a y_5.l.length y_5.c) 60 3 y_5.l.length (y_5.l.flatMap encO), Res.rows (y_5.l.flatMap rdsO), bk b_4 31 [.slice none 0 0, str [], iv 0], bk b_3 31 [.slice y_5.a y_5.l.length y_5.c, str y_5.jt, iv y_5.js]] 1000 mixed (by simp) <| jL 0 rfl (jQ fo60_2 rfl) <| jw 1 rfl (jZ 0 (v := .bool ((y_5.l.getD (1 - q) o0).t.whole)) rfl rfl gI rfl) <| jL 2 rfl (jD (v := .bool ((y_5.l.getD (1 - q) o0).t.whole)) rfl) ?_
    rcases Bool.eq_false_or_eq_true ((y_5.l.getD (1 - q) o0).t.whole) with h_10 | h_10
    · refine jd 3 (b := true) rfl (by kernel_rfl) (NP.th (NP.th NP.body)) (by kernel_rfl) (by kernel_rfl) rfl rfl rfl (cB h_10) <| jd 4 (b := true) rfl (by kernel_rfl) (NP.th (NP.th NP.body)) (by kernel_rfl) (by kernel_rfl) rfl rfl rfl (cB h_10) <| jd 5 (b := true) rfl (by kernel_rfl) (NP.th (NP.th NP.body)) (by kernel_rfl) (by kernel_rfl) rfl rfl rfl (cB h_10) <| jd 6 (b := true) rfl (by kernel_rfl) (NP.th (NP.th NP.body)) (by kernel_rfl) (by kernel_rfl) rfl rfl rfl (cB h_10) <| jd 7 (b := true) rfl (by kernel_rfl) (NP.th (NP.th NP.body)) (by kernel_rfl) (by kernel_rfl) rfl rfl rfl (cB h_10) <| jd 8 (b := true) rfl (by kernel_rfl) (NP.th (NP.th NP.body)) (by kernel_rfl) (by kernel_rfl) rfl rfl rfl (cB h_10) <| jd 9 (b := true) rfl (by kernel_rfl) (NP.th (NP.th NP.body)) (by kernel_rfl) (by kernel_rfl) rfl rfl rfl (cB h_10) <| jd 10 (b := true) rfl (by kernel_rfl) (NP.th (NP.th NP.body)) (by kernel_rfl) (by kernel_rfl) rfl rfl rfl (cB h_10) <| jd 11 (b := true) rfl (by kernel_rfl) (NP.th (NP.th NP.body)) (by kernel_rfl) (by kernel_rfl) rfl rfl rfl (cB h_10) <| jd 12 (b := true) rfl (by kernel_rfl) (NP.th (NP.th NP.body)) (by kernel_rfl) (by kernel_rfl) rfl rfl rfl (cB h_10) ?_
      refine jL 13 rfl (jh (v := .bool true) (cB h_10) rfl) <| jL 14 rfl (jD (v := .bool true) rfl) <| jd 15 (b := true) rfl (by kernel_rfl) (NP.th (NP.th NP.body)) (by kernel_rfl) (by kernel_rfl) rfl rfl rfl (cB rfl) <| jd 16 (b := true) rfl (by kernel_rfl) (NP.th (NP.th NP.body)) (by kernel_rfl) (by kernel_rfl) rfl rfl rfl (cB rfl) <| jd 17 (b := true) rfl (by kernel_rfl) (NP.th (NP.th NP.body)) (by kernel_rfl) (by kernel_rfl) rfl rfl rfl (cB rfl) <| jd 18 (b := true) rfl (by kernel_rfl) (NP.th (NP.th NP.body)) (by kernel_rfl) (by kernel_rfl) rfl rfl rfl (cB rfl) <| jL 19 rfl (jh (v := .bool true) (cB rfl) rfl) <| jL 20 rfl (jD (v := .bool true) rfl) <| jd 21 (b := true) rfl (by kernel_rfl) (NP.th (NP.th NP.body)) (by kernel_rfl) (by kernel_rfl) rfl rfl rfl (cB rfl) <| jd 22 (b := true) rfl (by kernel_rfl) (NP.th (NP.th NP.body)) (by kernel_rfl) (by kernel_rfl) rfl rfl rfl (cB rfl) ?_
      refine jd 23 (b := true) rfl (by kernel_rfl) (NP.th (NP.th NP.body)) (by kernel_rfl) (by kernel_rfl) rfl rfl rfl (cB rfl) <| jd 24 (b := true) rfl (by kernel_rfl) (NP.th (NP.th NP.body)) (by kernel_rfl) (by kernel_rfl) rfl rfl rfl (cB rfl) <| jL 25 rfl (jh (v := .bool true) (cB rfl) rfl) <| kI (by kernel_rfl) <| jB <| jW (cB rfl) <| jC <| jF <| jK (jO 4 (vs := [.slice y_5.a y_5.l.length y_5.c, str y_5.jt, iv y_5.js]) rfl rfl ke kd rfl rfl) ?_
      refine jH rfl (ja 3 (vs := [.slice y_5.a y_5.l.length y_5.c, str y_5.jt, iv y_5.js]) (cs' := [.slice y_5.a y_5.l.length y_5.c, str y_5.jt, iv y_5.js]) rfl rfl rfl rfl kd rfl rfl (lb rfl) rfl) ?_
      rintro _ _ rfl
      refine jA (jG (v := .bool false) rfl) <| jE <| jB <| jN <| jX <| ju (L' := [Res.rows (rdsOS y_5.a y_5.c y_5.l), bk b_9 60 [iv ((y_5.l.getD (1 - q) o0).t.seq), .slice ((y_5.l.getD (1 - q) o0).x.a0) ((y_5.l.getD (1 - q) o0).t.cells.length) ((y_5.l.getD (1 - q) o0).x.c0), .bool ((y_5.l.getD (1 - q) o0).t.whole)], bk b_4 31 [.slice y_5.a y_5.l.length y_5.c, str y_5.jt, iv y_5.js], bk b_3 31 [.slice y_5.a y_5.l.length y_5.c, str y_5.jt, iv y_5.js]]) (fun w hw => hw.consR (r := ⟨.slice y_5.a y_5.l.length y_5.c, 60, 3, y_5.l.length, y_5.l.flatMap encO⟩) (A := y_5.l.flatMap rdsO) [1, 1] rfl) <| kC (.inl rfl) rfl (kA (jO 2 (vs := [.slice y_5.a y_5.l.length y_5.c, str y_5.jt, iv y_5.js]) rfl rfl ke kd rfl rfl) ⟨_, rfl⟩) (jJ (v := .bool false) rfl) (tS 1 _) ?_
      have hoth : othD y_5.dat = (y_5.l.getD (1 - q) o0).t := by rw [othD, hq, Int.toNat_natCast]; exact getD_map'
      have he := foldE_no (d := y_5.dat) (by rw [hoth]; rintro ⟨h_1, h_2, h_3, h_4, h_5⟩; first | omega | simp_all)
      rw [hy_6] at he
      exact ⟨y_5, (hy_6).trans (congrArg Prod.fst he).symm, by rw [he], rfl⟩
    refine jg 3 rfl (by kernel_rfl) (NP.th (NP.th NP.body)) (by kernel_rfl) (by kernel_rfl) rfl rfl rfl (cB h_10) (jQ fo60_0 rfl) <| kK 4 rfl (by kernel_rfl) (NP.th (NP.th NP.body)) (by kernel_rfl) (by kernel_rfl) (by kernel_rfl) rfl rfl rfl (cB h_10) (jZ 0 (v := iv ((y_5.l.getD (1 - q) o0).t.seq)) rfl rfl kq rfl) <| jg 5 rfl (by kernel_rfl) (NP.th (NP.th NP.body)) (by kernel_rfl) (by kernel_rfl) rfl rfl rfl (cB h_10) (jQ fo31_0 rfl) <| kK 6 rfl (by kernel_rfl) (NP.th (NP.th NP.body)) (by kernel_rfl) (by kernel_rfl) (by kernel_rfl) rfl rfl rfl (cB h_10) (jZ 4 (v := .slice y_5.a y_5.l.length y_5.c) rfl rfl ks rfl) <| jg 7 rfl (by kernel_rfl) (NP.th (NP.th NP.body)) (by kernel_rfl) (by kernel_rfl) rfl rfl rfl (cB h_10) (jD (v := iv ((1 - q : Nat) : Int)) rfl) <| jg 8 rfl (by kernel_rfl) (NP.th (NP.th NP.body)) (by kernel_rfl) (by kernel_rfl) rfl rfl rfl (cB h_10) (kZ (c := ((q : Nat) : Int)) rfl rfl (wr (by omega))) <| jg 9 rfl (by kernel_rfl) (NP.th (NP.th NP.body)) (by kernel_rfl) (by kernel_rfl) rfl rfl rfl (cB h_10) (jk (i := q) km kj hr_8 hr_8b rfl rfl (by omega)) <| jg 10 rfl (by kernel_rfl) (NP.th (NP.th NP.body)) (by kernel_rfl) (by kernel_rfl) rfl rfl rfl (cB h_10) (kL fo60_0 hr_8 rfl) <| kK 11 rfl (by kernel_rfl) (NP.th (NP.th NP.body)) (by kernel_rfl) (by kernel_rfl) (by kernel_rfl) rfl rfl rfl (cB h_10) (ka 1 (v := iv ((y_5.l.getD q o0).t.seq)) rfl rfl kq (flat_at encO_len o0 y_5.l q 0 (by omega) (by decide))) <| jg 12 rfl (by kernel_rfl) (NP.th (NP.th NP.body)) (by kernel_rfl) (by kernel_rfl) rfl rfl rfl (cB h_10) (PO.leq rfl rfl) ?_
    refine jL 13 rfl (ji (v := .bool (decide (((y_5.l.getD (1 - q) o0).t.seq) ≤ ((y_5.l.getD q o0).t.seq)))) (cB h_10) rfl) <| jL 14 rfl (jD (v := .bool (decide (((y_5.l.getD (1 - q) o0).t.seq) ≤ ((y_5.l.getD q o0).t.seq)))) rfl) ?_
    by_cases h_11 : ((y_5.l.getD (1 - q) o0).t.seq) ≤ ((y_5.l.getD q o0).t.seq)
    · refine jd 15 (b := true) rfl (by kernel_rfl) (NP.th (NP.th NP.body)) (by kernel_rfl) (by kernel_rfl) rfl rfl rfl (cB (dT h_11)) <| jd 16 (b := true) rfl (by kernel_rfl) (NP.th (NP.th NP.body)) (by kernel_rfl) (by kernel_rfl) rfl rfl rfl (cB (dT h_11)) <| jd 17 (b := true) rfl (by kernel_rfl) (NP.th (NP.th NP.body)) (by kernel_rfl) (by kernel_rfl) rfl rfl rfl (cB (dT h_11)) <| jd 18 (b := true) rfl (by kernel_rfl) (NP.th (NP.th NP.body)) (by kernel_rfl) (by kernel_rfl) rfl rfl rfl (cB (dT h_11)) <| jL 19 rfl (jh (v := .bool true) (cB (dT h_11)) rfl) <| jL 20 rfl (jD (v := .bool true) rfl) <| jd 21 (b := true) rfl (by kernel_rfl) (NP.th (NP.th NP.body)) (by kernel_rfl) (by kernel_rfl) rfl rfl rfl (cB rfl) <| jd 22 (b := true) rfl (by kernel_rfl) (NP.th (NP.th NP.body)) (by kernel_rfl) (by kernel_rfl) rfl rfl rfl (cB rfl) <| jd 23 (b := true) rfl (by kernel_rfl) (NP.th (NP.th NP.body)) (by kernel_rfl) (by kernel_rfl) rfl rfl rfl (cB rfl) <| jd 24 (b := true) rfl (by kernel_rfl) (NP.th (NP.th NP.body)) (by kernel_rfl) (by kernel_rfl) rfl rfl rfl (cB rfl) ?_
      refine jL 25 rfl (jh (v := .bool true) (cB rfl) rfl) <| kI (by kernel_rfl) <| jB <| jW (cB rfl) <| jC <| jF <| jK (jO 4 (vs := [.slice y_5.a y_5.l.length y_5.c, str y_5.jt, iv y_5.js]) rfl rfl ke kd rfl rfl) ?_
      refine jH rfl (ja 3 (vs := [.slice y_5.a y_5.l.length y_5.c, str y_5.jt, iv y_5.js]) (cs' := [.slice y_5.a y_5.l.length y_5.c, str y_5.jt, iv y_5.js]) rfl rfl rfl rfl kd rfl rfl (lb rfl) rfl) ?_
      rintro _ _ rfl
      refine jA (jG (v := .bool false) rfl) <| jE <| jB <| jN <| jX <| ju (L' := [Res.rows (rdsOS y_5.a y_5.c y_5.l), bk b_9 60 [iv ((y_5.l.getD (1 - q) o0).t.seq), .slice ((y_5.l.getD (1 - q) o0).x.a0) ((y_5.l.getD (1 - q) o0).t.cells.length) ((y_5.l.getD (1 - q) o0).x.c0), .bool ((y_5.l.getD (1 - q) o0).t.whole)], bk b_4 31 [.slice y_5.a y_5.l.length y_5.c, str y_5.jt, iv y_5.js], bk b_3 31 [.slice y_5.a y_5.l.length y_5.c, str y_5.jt, iv y_5.js]]) (fun w hw => hw.consR (r := ⟨.slice y_5.a y_5.l.length y_5.c, 60, 3, y_5.l.length, y_5.l.flatMap encO⟩) (A := y_5.l.flatMap rdsO) [1, 1] rfl) <| kC (.inl rfl) rfl (kA (jO 2 (vs := [.slice y_5.a y_5.l.length y_5.c, str y_5.jt, iv y_5.js]) rfl rfl ke kd rfl rfl) ⟨_, rfl⟩) (jJ (v := .bool false) rfl) (tS 1 _) ?_
      have hoth : othD y_5.dat = (y_5.l.getD (1 - q) o0).t := by rw [othD, hq, Int.toNat_natCast]; exact getD_map'
      have he := foldE_no (d := y_5.dat) (by rw [hoth]; rintro ⟨h_1, h_2, h_3, h_4, h_5⟩; first | omega | simp_all)
      rw [hy_6] at he
      exact ⟨y_5, (hy_6).trans (congrArg Prod.fst he).symm, by rw [he], rfl⟩
    refine jg 15 rfl (by kernel_rfl) (NP.th (NP.th NP.body)) (by kernel_rfl) (by kernel_rfl) rfl rfl rfl (cB (dF h_11)) (jQ fo60_1 rfl) <| kK 16 rfl (by kernel_rfl) (NP.th (NP.th NP.body)) (by kernel_rfl) (by kernel_rfl) (by kernel_rfl) rfl rfl rfl (cB (dF h_11)) (jZ 0 (v := .slice ((y_5.l.getD (1 - q) o0).x.a0) ((y_5.l.getD (1 - q) o0).t.cells.length) ((y_5.l.getD (1 - q) o0).x.c0)) rfl rfl kz rfl) <| jj (i := 17) ?_
    refine kQ rfl rfl rfl rfl (cB (dF h_11)) (jI [] Tryz.call53 rfl (Y_specStoreOk (y_5.l.getD (1 - q) o0).x.a0 ((y_5.l.getD (1 - q) o0).x.c0) ((y_5.l.getD (1 - q) o0).t.cells) (hzy.k1 _ (List.mem_map_of_mem (getD_mem (d := o0) (by omega)))).k0) rfl (fun w hw => (seesO ((hw.seeRows 2 rfl).elem o0 (by omega))))) ?_
    rintro _ _ ⟨_, ⟨rfl, rfl⟩, rfl⟩
    refine ⟨by simp, ?_⟩
    refine jg 18 rfl (by kernel_rfl) (NP.th (NP.th NP.body)) (by kernel_rfl) (by kernel_rfl) rfl rfl rfl (cB (dF h_11)) (jp rfl) <| jL 19 rfl (ji (v := .bool (!(storeOk ((y_5.l.getD (1 - q) o0).t.cells)))) (cB (dF h_11)) rfl) <| jL 20 rfl (jD (v := .bool (!(storeOk ((y_5.l.getD (1 - q) o0).t.cells)))) rfl) ?_
    rcases Bool.eq_false_or_eq_true (storeOk ((y_5.l.getD (1 - q) o0).t.cells)) with h_12 | h_12
    · refine jg 21 rfl (by kernel_rfl) (NP.th (NP.th NP.body)) (by kernel_rfl) (by kernel_rfl) rfl rfl rfl (cB (cN h_12)) (jQ fo60_0 rfl) <| kK 22 rfl (by kernel_rfl) (NP.th (NP.th NP.body)) (by kernel_rfl) (by kernel_rfl) (by kernel_rfl) rfl rfl rfl (cB (cN h_12)) (jZ 0 (v := iv ((y_5.l.getD (1 - q) o0).t.seq)) rfl rfl kq rfl) <| jj (i := 23) ?_
      refine kQ rfl rfl rfl rfl (cB (cN h_12)) (jI [] Tryz.call89 rfl (Y_l01In ((y_5.l.getD (1 - q) o0).t.seq) 0 99999) rfl (fun _ _ => trivial)) ?_
      rintro _ _ ⟨_, ⟨rfl, rfl⟩, rfl⟩
      refine ⟨by simp, ?_⟩
      refine jg 24 rfl (by kernel_rfl) (NP.th (NP.th NP.body)) (by kernel_rfl) (by kernel_rfl) rfl rfl rfl (cB (cN h_12)) (jp rfl) <| jL 25 rfl (ji (v := .bool (!(within 0 ((y_5.l.getD (1 - q) o0).t.seq) 99999))) (cB (cN h_12)) rfl) <| kI (by kernel_rfl) <| jB ?_
      rcases Bool.eq_false_or_eq_true (within 0 ((y_5.l.getD (1 - q) o0).t.seq) 99999) with h_13 | h_13
      · refine jR (cB (cN h_13)) <| jT <| jB <| jC <| jF <| jA (jQ fo31_0 rfl) <| jK (jZ 4 (v := .slice y_5.a y_5.l.length y_5.c) rfl rfl ks rfl) <| jA (jD (v := iv ((1 - q : Nat) : Int)) rfl) <| jA (jk (i := (1 - q)) km kj hr_8 hr_8b rfl rfl (by omega)) <| jA (kL fo60_2 hr_8 rfl) ?_
        refine jH rfl (JO.storeR 1 (vs := [.bool true]) (cs' := (y_5.l.set (1 - q) (⟨⟨(y_5.l.getD (1 - q) o0).x.a0, ((y_5.l.getD (1 - q) o0).x.c0)⟩, ⟨(y_5.l.getD (1 - q) o0).t.seq, (y_5.l.getD (1 - q) o0).t.cells, true⟩⟩ : OX)).flatMap encO) rfl rfl rfl rfl Tryz.sizeOf4 rfl rfl (by decide) (by rw [flat_length encO_len]; omega) (flat_set1 encO_len o0 (f := 2) (y := (⟨⟨(y_5.l.getD (1 - q) o0).x.a0, ((y_5.l.getD (1 - q) o0).x.c0)⟩, ⟨(y_5.l.getD (1 - q) o0).t.seq, (y_5.l.getD (1 - q) o0).t.cells, true⟩⟩ : OX)) (by omega) (by decide) rfl)) ?_
        rintro _ _ rfl
        refine jE <| jB <| jC <| jF <| jK (jO 4 (vs := [.slice y_5.a y_5.l.length y_5.c, str y_5.jt, iv y_5.js]) rfl rfl ke kd rfl rfl) ?_
        refine jH rfl (ja 3 (vs := [.slice y_5.a y_5.l.length y_5.c, str y_5.jt, iv y_5.js]) (cs' := [.slice y_5.a y_5.l.length y_5.c, str y_5.jt, iv y_5.js]) rfl rfl rfl rfl kd rfl rfl (lb rfl) rfl) ?_
        rintro _ _ rfl
        refine jA (jG (v := .bool true) rfl) <| jE <| jB <| jN <| ju (L' := [Res.rows ((y_5.l.set (1 - q) (⟨⟨(y_5.l.getD (1 - q) o0).x.a0, ((y_5.l.getD (1 - q) o0).x.c0)⟩, ⟨(y_5.l.getD (1 - q) o0).t.seq, (y_5.l.getD (1 - q) o0).t.cells, true⟩⟩ : OX)).flatMap rdsO), bk b_9 60 [iv ((y_5.l.getD (1 - q) o0).t.seq), .slice ((y_5.l.getD (1 - q) o0).x.a0) ((y_5.l.getD (1 - q) o0).t.cells.length) ((y_5.l.getD (1 - q) o0).x.c0), .bool ((y_5.l.getD (1 - q) o0).t.whole)], Res.row (.slice y_5.a y_5.l.length y_5.c) 60 3 y_5.l.length ((y_5.l.set (1 - q) (⟨⟨(y_5.l.getD (1 - q) o0).x.a0, ((y_5.l.getD (1 - q) o0).x.c0)⟩, ⟨(y_5.l.getD (1 - q) o0).t.seq, (y_5.l.getD (1 - q) o0).t.cells, true⟩⟩ : OX)).flatMap encO), bk b_4 31 [.slice y_5.a y_5.l.length y_5.c, str y_5.jt, iv y_5.js], bk b_3 31 [.slice y_5.a y_5.l.length y_5.c, str y_5.jt, iv y_5.js]]) (fun w hw => hw.rowsEq 2 (A := y_5.l.flatMap rdsO) (B := (y_5.l.set (1 - q) (⟨⟨(y_5.l.getD (1 - q) o0).x.a0, ((y_5.l.getD (1 - q) o0).x.c0)⟩, ⟨(y_5.l.getD (1 - q) o0).t.seq, (y_5.l.getD (1 - q) o0).t.cells, true⟩⟩ : OX)).flatMap rdsO) (F := [bk b_9 60 [iv ((y_5.l.getD (1 - q) o0).t.seq), .slice ((y_5.l.getD (1 - q) o0).x.a0) ((y_5.l.getD (1 - q) o0).t.cells.length) ((y_5.l.getD (1 - q) o0).x.c0), .bool ((y_5.l.getD (1 - q) o0).t.whole)], Res.row (.slice y_5.a y_5.l.length y_5.c) 60 3 y_5.l.length ((y_5.l.set (1 - q) (⟨⟨(y_5.l.getD (1 - q) o0).x.a0, ((y_5.l.getD (1 - q) o0).x.c0)⟩, ⟨(y_5.l.getD (1 - q) o0).t.seq, (y_5.l.getD (1 - q) o0).t.cells, true⟩⟩ : OX)).flatMap encO), bk b_4 31 [.slice y_5.a y_5.l.length y_5.c, str y_5.jt, iv y_5.js], bk b_3 31 [.slice y_5.a y_5.l.length y_5.c, str y_5.jt, iv y_5.js]]) rfl (flatMap_sameO (l := y_5.l) (i := 1 - q) (x := (⟨⟨(y_5.l.getD (1 - q) o0).x.a0, ((y_5.l.getD (1 - q) o0).x.c0)⟩, ⟨(y_5.l.getD (1 - q) o0).t.seq, (y_5.l.getD (1 - q) o0).t.cells, true⟩⟩ : OX)) (by omega) rfl).symm) <| ju (L' := [Res.rows ((y_5.l.set (1 - q) (⟨⟨(y_5.l.getD (1 - q) o0).x.a0, ((y_5.l.getD (1 - q) o0).x.c0)⟩, ⟨(y_5.l.getD (1 - q) o0).t.seq, (y_5.l.getD (1 - q) o0).t.cells, true⟩⟩ : OX)).flatMap rdsO), bk b_9 60 [iv ((y_5.l.getD (1 - q) o0).t.seq), .slice ((y_5.l.getD (1 - q) o0).x.a0) ((y_5.l.getD (1 - q) o0).t.cells.length) ((y_5.l.getD (1 - q) o0).x.c0), .bool ((y_5.l.getD (1 - q) o0).t.whole)], Res.row (.slice y_5.a ((y_5.l.set (1 - q) (⟨⟨(y_5.l.getD (1 - q) o0).x.a0, ((y_5.l.getD (1 - q) o0).x.c0)⟩, ⟨(y_5.l.getD (1 - q) o0).t.seq, (y_5.l.getD (1 - q) o0).t.cells, true⟩⟩ : OX)).length) y_5.c) 60 3 ((y_5.l.set (1 - q) (⟨⟨(y_5.l.getD (1 - q) o0).x.a0, ((y_5.l.getD (1 - q) o0).x.c0)⟩, ⟨(y_5.l.getD (1 - q) o0).t.seq, (y_5.l.getD (1 - q) o0).t.cells, true⟩⟩ : OX)).length) ((y_5.l.set (1 - q) (⟨⟨(y_5.l.getD (1 - q) o0).x.a0, ((y_5.l.getD (1 - q) o0).x.c0)⟩, ⟨(y_5.l.getD (1 - q) o0).t.seq, (y_5.l.getD (1 - q) o0).t.cells, true⟩⟩ : OX)).flatMap encO), bk b_4 31 [.slice y_5.a y_5.l.length y_5.c, str y_5.jt, iv y_5.js], bk b_3 31 [.slice y_5.a y_5.l.length y_5.c, str y_5.jt, iv y_5.js]]) (fun w hw => hw.eqL (by simp only [List.length_set])) <| ju (L' := [Res.rows (rdsOS y_5.a y_5.c (y_5.l.set (1 - q) (⟨⟨(y_5.l.getD (1 - q) o0).x.a0, ((y_5.l.getD (1 - q) o0).x.c0)⟩, ⟨(y_5.l.getD (1 - q) o0).t.seq, (y_5.l.getD (1 - q) o0).t.cells, true⟩⟩ : OX))), bk b_9 60 [iv ((y_5.l.getD (1 - q) o0).t.seq), .slice ((y_5.l.getD (1 - q) o0).x.a0) ((y_5.l.getD (1 - q) o0).t.cells.length) ((y_5.l.getD (1 - q) o0).x.c0), .bool ((y_5.l.getD (1 - q) o0).t.whole)], bk b_4 31 [.slice y_5.a y_5.l.length y_5.c, str y_5.jt, iv y_5.js], bk b_3 31 [.slice y_5.a y_5.l.length y_5.c, str y_5.jt, iv y_5.js]]) (fun w hw => hw.consR (r := ⟨.slice y_5.a ((y_5.l.set (1 - q) (⟨⟨(y_5.l.getD (1 - q) o0).x.a0, ((y_5.l.getD (1 - q) o0).x.c0)⟩, ⟨(y_5.l.getD (1 - q) o0).t.seq, (y_5.l.getD (1 - q) o0).t.cells, true⟩⟩ : OX)).length) y_5.c, 60, 3, (y_5.l.set (1 - q) (⟨⟨(y_5.l.getD (1 - q) o0).x.a0, ((y_5.l.getD (1 - q) o0).x.c0)⟩, ⟨(y_5.l.getD (1 - q) o0).t.seq, (y_5.l.getD (1 - q) o0).t.cells, true⟩⟩ : OX)).length, (y_5.l.set (1 - q) (⟨⟨(y_5.l.getD (1 - q) o0).x.a0, ((y_5.l.getD (1 - q) o0).x.c0)⟩, ⟨(y_5.l.getD (1 - q) o0).t.seq, (y_5.l.getD (1 - q) o0).t.cells, true⟩⟩ : OX)).flatMap encO⟩) (A := (y_5.l.set (1 - q) (⟨⟨(y_5.l.getD (1 - q) o0).x.a0, ((y_5.l.getD (1 - q) o0).x.c0)⟩, ⟨(y_5.l.getD (1 - q) o0).t.seq, (y_5.l.getD (1 - q) o0).t.cells, true⟩⟩ : OX)).flatMap rdsO) [2, 0] rfl) <| kC (.inl rfl) rfl (kA (jO 2 (vs := [.slice y_5.a y_5.l.length y_5.c, str y_5.jt, iv y_5.js]) rfl rfl ke kd rfl rfl) ⟨_, rfl⟩) (jJ (v := .bool true) rfl) (tS 1 _) ?_
        have hoth : othD y_5.dat = (y_5.l.getD (1 - q) o0).t := by rw [othD, hq, Int.toNat_natCast]; exact getD_map'
        have he := foldE_yes (d := y_5.dat) (by rw [hoth]; exact ⟨h_7, by assumption, by omega, by assumption, by assumption⟩)
        rw [hoth] at he
        refine ⟨(⟨y_5.a, y_5.c, y_5.l.set (1 - q) (⟨⟨(y_5.l.getD (1 - q) o0).x.a0, ((y_5.l.getD (1 - q) o0).x.c0)⟩, ⟨(y_5.l.getD (1 - q) o0).t.seq, (y_5.l.getD (1 - q) o0).t.cells, true⟩⟩ : OX), y_5.jt, y_5.js⟩ : DX), ?_, by simp only [← hy_6, he, List.length_set], rfl⟩
        rw [← hy_6, he]
        exact fold_dat rfl rfl rfl hq rfl
      refine jW (cB (cN h_13)) <| jC <| jF <| jK (jO 4 (vs := [.slice y_5.a y_5.l.length y_5.c, str y_5.jt, iv y_5.js]) rfl rfl ke kd rfl rfl) ?_
      refine jH rfl (ja 3 (vs := [.slice y_5.a y_5.l.length y_5.c, str y_5.jt, iv y_5.js]) (cs' := [.slice y_5.a y_5.l.length y_5.c, str y_5.jt, iv y_5.js]) rfl rfl rfl rfl kd rfl rfl (lb rfl) rfl) ?_
      rintro _ _ rfl
      refine jA (jG (v := .bool false) rfl) <| jE <| jB <| jN <| jX <| ju (L' := [Res.rows (rdsOS y_5.a y_5.c y_5.l), bk b_9 60 [iv ((y_5.l.getD (1 - q) o0).t.seq), .slice ((y_5.l.getD (1 - q) o0).x.a0) ((y_5.l.getD (1 - q) o0).t.cells.length) ((y_5.l.getD (1 - q) o0).x.c0), .bool ((y_5.l.getD (1 - q) o0).t.whole)], bk b_4 31 [.slice y_5.a y_5.l.length y_5.c, str y_5.jt, iv y_5.js], bk b_3 31 [.slice y_5.a y_5.l.length y_5.c, str y_5.jt, iv y_5.js]]) (fun w hw => hw.consR (r := ⟨.slice y_5.a y_5.l.length y_5.c, 60, 3, y_5.l.length, y_5.l.flatMap encO⟩) (A := y_5.l.flatMap rdsO) [1, 1] rfl) <| kC (.inl rfl) rfl (kA (jO 2 (vs := [.slice y_5.a y_5.l.length y_5.c, str y_5.jt, iv y_5.js]) rfl rfl ke kd rfl rfl) ⟨_, rfl⟩) (jJ (v := .bool false) rfl) (tS 1 _) ?_
      have hoth : othD y_5.dat = (y_5.l.getD (1 - q) o0).t := by rw [othD, hq, Int.toNat_natCast]; exact getD_map'
      have he := foldE_no (d := y_5.dat) (by rw [hoth]; rintro ⟨h_1, h_2, h_3, h_4, h_5⟩; first | omega | simp_all)
      rw [hy_6] at he
      exact ⟨y_5, (hy_6).trans (congrArg Prod.fst he).symm, by rw [he], rfl⟩
    refine jd 21 (b := true) rfl (by kernel_rfl) (NP.th (NP.th NP.body)) (by kernel_rfl) (by kernel_rfl) rfl rfl rfl (cB (cN h_12)) <| jd 22 (b := true) rfl (by kernel_rfl) (NP.th (NP.th NP.body)) (by kernel_rfl) (by kernel_rfl) rfl rfl rfl (cB (cN h_12)) <| jd 23 (b := true) rfl (by kernel_rfl) (NP.th (NP.th NP.body)) (by kernel_rfl) (by kernel_rfl) rfl rfl rfl (cB (cN h_12)) <| jd 24 (b := true) rfl (by kernel_rfl) (NP.th (NP.th NP.body)) (by kernel_rfl) (by kernel_rfl) rfl rfl rfl (cB (cN h_12)) <| jL 25 rfl (jh (v := .bool true) (cB (cN h_12)) rfl) <| kI (by kernel_rfl) <| jB <| jW (cB rfl) <| jC <| jF ?_
    refine jK (jO 4 (vs := [.slice y_5.a y_5.l.length y_5.c, str y_5.jt, iv y_5.js]) rfl rfl ke kd rfl rfl) ?_
    refine jH rfl (ja 3 (vs := [.slice y_5.a y_5.l.length y_5.c, str y_5.jt, iv y_5.js]) (cs' := [.slice y_5.a y_5.l.length y_5.c, str y_5.jt, iv y_5.js]) rfl rfl rfl rfl kd rfl rfl (lb rfl) rfl) ?_
    rintro _ _ rfl
    refine jA (jG (v := .bool false) rfl) <| jE <| jB <| jN <| jX <| ju (L' := [Res.rows (rdsOS y_5.a y_5.c y_5.l), bk b_9 60 [iv ((y_5.l.getD (1 - q) o0).t.seq), .slice ((y_5.l.getD (1 - q) o0).x.a0) ((y_5.l.getD (1 - q) o0).t.cells.length) ((y_5.l.getD (1 - q) o0).x.c0), .bool ((y_5.l.getD (1 - q) o0).t.whole)], bk b_4 31 [.slice y_5.a y_5.l.length y_5.c, str y_5.jt, iv y_5.js], bk b_3 31 [.slice y_5.a y_5.l.length y_5.c, str y_5.jt, iv y_5.js]]) (fun w hw => hw.consR (r := ⟨.slice y_5.a y_5.l.length y_5.c, 60, 3, y_5.l.length, y_5.l.flatMap encO⟩) (A := y_5.l.flatMap rdsO) [1, 1] rfl) <| kC (.inl rfl) rfl (kA (jO 2 (vs := [.slice y_5.a y_5.l.length y_5.c, str y_5.jt, iv y_5.js]) rfl rfl ke kd rfl rfl) ⟨_, rfl⟩) (jJ (v := .bool false) rfl) (tS 1 _) ?_
    have hoth : othD y_5.dat = (y_5.l.getD (1 - q) o0).t := by rw [othD, hq, Int.toNat_natCast]; exact getD_map'
    have he := foldE_no (d := y_5.dat) (by rw [hoth]; rintro ⟨h_1, h_2, h_3, h_4, h_5⟩; first | omega | simp_all)
    rw [hy_6] at he
    exact ⟨y_5, (hy_6).trans (congrArg Prod.fst he).symm, by rw [he], rfl⟩
  refine jW (cB (cN h_7)) <| jC <| jF <| jK (jO 2 (vs := [.slice y_5.a y_5.l.length y_5.c, str y_5.jt, iv y_5.js]) rfl rfl ke kd rfl rfl) ?_
  refine jH rfl (ja 1 (vs := [.slice y_5.a y_5.l.length y_5.c, str y_5.jt, iv y_5.js]) (cs' := [.slice y_5.a y_5.l.length y_5.c, str y_5.jt, iv y_5.js]) rfl rfl rfl rfl kd rfl rfl (lb rfl) rfl) ?_
  rintro _ _ rfl
  refine jA (jG (v := .bool false) rfl) <| jE <| jB <| jN <| jX <| kC (.inl rfl) rfl (kA (jO 1 (vs := [.slice y_5.a y_5.l.length y_5.c, str y_5.jt, iv y_5.js]) rfl rfl ke kd rfl rfl) ⟨_, rfl⟩) (jJ (v := .bool false) rfl) (tS 1 _) ?_
  have he := foldE_no (d := y_5.dat) (by rintro ⟨h_1, h_2, h_3, h_4, h_5⟩; first | omega | simp_all)
  rw [hy_6] at he
  exact ⟨y_5, (hy_6).trans (congrArg Prod.fst he).symm, by rw [he], rfl⟩

end Go.Proofs.YtjncpgcccgdeiaaGreatDoor

set_option linter.unusedSimpArgs false
set_option linter.unusedVariables false
set_option linter.unnecessarySimpa false
namespace Go.Proofs.YtjncpgcccgdeiaaGreatDoor
open Go Go.RowKit
/- lines -/
def isLine (x : Str) : Prop := ∃ a : Str, (∀ c ∈ a, c ≠ 10) ∧ x = a ++ [10]
theorem lines_flat : ∀ (L : List Str) (r : Str), (∀ x ∈ L, isLine x) → (∀ c ∈ r, c ≠ 10) → linesOf (L.flatten ++ r) = L
  | [], r, _, h => lines_no h
  | x :: L, r, hx, hr => by
    obtain ⟨a, ha, rfl⟩ := hx x (List.mem_cons_self ..)
    have e : ((a ++ [10]) :: L).flatten ++ r = a ++ 10 :: (L.flatten ++ r) := by simp
    have ih := lines_flat L r (fun y hy => hx y (List.mem_cons_of_mem _ hy)) hr
    unfold linesOf at *
    rw [e, linesG_app [] _ ha, ih]
    simp
theorem lines_parts : ∀ (n : Nat) (t : Str), t.length ≤ n → ∃ r, t = (linesOf t).flatten ++ r ∧ (∀ c ∈ r, c ≠ 10) ∧ ∀ x ∈ linesOf t, isLine x
  | 0, t, h => by
    have : t = [] := List.length_eq_zero_iff.1 (by omega)
    subst this
    exact ⟨[], rfl, (fun _ h => by cases h), fun _ h => by cases h⟩
  | n + 1, t, h => by
    rcases ix_cases 10 t with ⟨_, hn⟩ | ⟨i, _, hi, hN, hc⟩
    · exact ⟨t, by rw [lines_no hn]; rfl, hn, by rw [lines_no hn]; exact fun _ h => by cases h⟩
    · obtain ⟨r, h1, h2, h3⟩ := lines_parts n (t.drop (i + 1)) (by rw [List.length_drop]; omega)
      refine ⟨r, ?_, h2, ?_⟩
      · rw [lines_first hi hN hc, List.flatten_cons, List.append_assoc, ← h1, List.take_append_drop]
      · rw [lines_first hi hN hc]
        intro x hx
        rcases List.mem_cons.1 hx with rfl | hx
        · refine ⟨t.take i, front_no (by omega) hN, ?_⟩
          rw [take_at (getD_some (d := 0) hi), hc]
        · exact h3 x hx
theorem sumLen_flat : ∀ L : List Str, sumLen L = L.flatten.length
  | [] => rfl
  | x :: L => by
    have := sumLen_flat L
    simp only [sumLen, List.foldr_cons, List.flatten_cons, List.length_append] at *
    omega
theorem lines_take (t : Str) (k : Nat) : linesOf (t.take (sumLen ((linesOf t).take k))) = (linesOf t).take k ∧ t.take (sumLen ((linesOf t).take k)) = ((linesOf t).take k).flatten := by
  obtain ⟨r, h1, _, h3⟩ := lines_parts t.length t (Nat.le_refl _)
  have e : t.take (sumLen ((linesOf t).take k)) = ((linesOf t).take k).flatten := by
    rw [sumLen_flat]
    have h2 : t = ((linesOf t).take k).flatten ++ (((linesOf t).drop k).flatten ++ r) := by
      rw [← List.append_assoc, ← List.flatten_append, List.take_append_drop]; exact h1
    generalize ((linesOf t).take k).flatten = A at h2 ⊢
    rw [h2, List.take_append_of_le_length (Nat.le_refl _), List.take_length]
  refine ⟨?_, e⟩
  rw [e]
  have := lines_flat ((linesOf t).take k) [] (fun x hx => h3 x (List.mem_of_mem_take hx)) (fun _ h => by cases h)
  rwa [List.append_nil] at this
theorem lines_drop (t : Str) (k : Nat) : linesOf (t.drop (sumLen ((linesOf t).take k))) = (linesOf t).drop k := by
  obtain ⟨r, h1, h2, h3⟩ := lines_parts t.length t (Nat.le_refl _)
  have e : t.drop (sumLen ((linesOf t).take k)) = ((linesOf t).drop k).flatten ++ r := by
    rw [sumLen_flat]
    have h4 : t = ((linesOf t).take k).flatten ++ (((linesOf t).drop k).flatten ++ r) := by
      rw [← List.append_assoc, ← List.flatten_append, List.take_append_drop]; exact h1
    generalize ((linesOf t).take k).flatten = A at h4 ⊢
    generalize ((linesOf t).drop k).flatten = B at h4 ⊢
    rw [h4, List.drop_append_of_le_length (Nat.le_refl _), List.drop_length, List.nil_append]
  rw [e]
  exact lines_flat _ r (fun x hx => h3 x (List.mem_of_mem_drop hx)) h2
/-- How many lines the records take: all of them are read, and told below the next. -/
theorem recsG_k (f : Int) : ∀ (L : List Str) (m : Nat), ∃ k, k ≤ L.length ∧ (recsG f m L).2 = sumLen (L.take k) ∧ recsG f m (L.take k) = recsG f m L ∧
    ∀ x ∈ L.take k, (readI x).2.2 = true ∧ (readI x).1 < f + ((m : Nat) : Int) + (((recsG f m L).1.length : Nat) : Int)
  | [], m => ⟨0, Nat.le_refl _, rfl, rfl, fun _ h => by cases h⟩
  | x :: l, m => by
    by_cases h1 : (readI x).2.2 = false
    · have e : recsG f m (x :: l) = ([], 0) := by rw [recsG, if_pos h1]
      exact ⟨0, Nat.zero_le _, by rw [e]; rfl, by rw [e]; rfl, fun _ h => by cases h⟩
    · have ho : (readI x).2.2 = true := by simpa using h1
      by_cases h2 : m = 0 ∧ (readI x).1 < f
      · obtain ⟨k, k1, k2, k3, k4⟩ := recsG_k f l m
        have e : recsG f m (x :: l) = ((recsG f m l).1, x.length + (recsG f m l).2) := by rw [recsG, if_neg h1, if_pos h2]
        have e2 : recsG f m (x :: l.take k) = ((recsG f m (l.take k)).1, x.length + (recsG f m (l.take k)).2) := by rw [recsG, if_neg h1, if_pos h2]
        refine ⟨k + 1, by simp only [List.length_cons]; omega, ?_, ?_, ?_⟩
        · rw [e, List.take_succ_cons, k2]; rfl
        · rw [List.take_succ_cons, e, e2, k3]
        · rw [List.take_succ_cons, e]
          intro y hy
          rcases List.mem_cons.1 hy with rfl | hy
          · exact ⟨ho, by omega⟩
          · exact k4 y hy
      · by_cases h3 : (readI x).1 = f + ((m : Nat) : Int)
        · obtain ⟨k, k1, k2, k3, k4⟩ := recsG_k f l (m + 1)
          have e : recsG f m (x :: l) = ((readI x).2.1 :: (recsG f (m + 1) l).1, x.length + (recsG f (m + 1) l).2) := by rw [recsG, if_neg h1, if_neg h2, if_pos h3]
          have e2 : recsG f m (x :: l.take k) = ((readI x).2.1 :: (recsG f (m + 1) (l.take k)).1, x.length + (recsG f (m + 1) (l.take k)).2) := by rw [recsG, if_neg h1, if_neg h2, if_pos h3]
          refine ⟨k + 1, by simp only [List.length_cons]; omega, ?_, ?_, ?_⟩
          · rw [e, List.take_succ_cons, k2]; rfl
          · rw [List.take_succ_cons, e, e2, k3]
          · rw [List.take_succ_cons, e]
            simp only [List.length_cons]
            intro y hy
            rcases List.mem_cons.1 hy with rfl | hy
            · exact ⟨ho, by omega⟩
            · have := k4 y hy
              exact ⟨this.1, by omega⟩
        · have e : recsG f m (x :: l) = ([], 0) := by rw [recsG, if_neg h1, if_neg h2, if_neg h3]
          exact ⟨0, Nat.zero_le _, by rw [e]; rfl, by rw [e]; rfl, fun _ h => by cases h⟩
theorem recs_clean (t : Str) (f : Int) : recsOf (t.take (recsOf t f).2) f = recsOf t f := by
  unfold recsOf
  by_cases hw : within 1 f 100000 = true
  · rw [if_pos hw, if_pos hw]
    obtain ⟨k, _, k2, k3, _⟩ := recsG_k f (linesOf t) 0
    rw [k2, (lines_take t k).1, k3]
  · rw [if_neg hw, if_neg hw]
/-- All lines are told below f: none is taken. -/
theorem recsG_below (f : Int) : ∀ L : List Str, (∀ x ∈ L, (readI x).2.2 = true ∧ (readI x).1 < f) → recsG f 0 L = ([], sumLen L)
  | [], _ => rfl
  | x :: L, h => by
    have h0 := h x (List.mem_cons_self ..)
    rw [recsG, if_neg (by rw [h0.1]; decide), if_pos ⟨rfl, h0.2⟩, recsG_below f L fun y hy => h y (List.mem_cons_of_mem _ hy)]
    rfl
theorem trimN_below (most : Int) : ∀ L : List Str, (∀ x ∈ L, (readI x).2.2 = true ∧ (readI x).1 < most + 1) → trimN most L = sumLen L
  | [], _ => rfl
  | x :: L, h => by
    have h0 := h x (List.mem_cons_self ..)
    rw [trimN, if_neg (by rintro (h1 | h1); rw [h0.1] at h1; cases h1; omega), trimN_below most L fun y hy => h y (List.mem_cons_of_mem _ hy)]
    rfl
theorem trimN_k (most : Int) : ∀ L : List Str, ∃ k, trimN most L = sumLen (L.take k) ∧ (recsG (most + 1) 0 (L.drop k)).1 = (recsG (most + 1) 0 L).1
  | [] => ⟨0, rfl, rfl⟩
  | x :: L => by
    by_cases h : (readI x).2.2 = false ∨ most < (readI x).1
    · exact ⟨0, by rw [trimN, if_pos h]; rfl, rfl⟩
    · obtain ⟨k, k1, k2⟩ := trimN_k most L
      refine ⟨k + 1, by rw [trimN, if_neg h, List.take_succ_cons, k1]; rfl, ?_⟩
      rw [List.drop_succ_cons, k2, recsG, if_neg (fun e => h (.inl e)), if_pos ⟨rfl, by have := fun e => h (.inr e); omega⟩]
theorem recs_trim (t : Str) (most : Int) : (recsOf (t.drop (trimN most (linesOf t))) (most + 1)).1 = (recsOf t (most + 1)).1 := by
  unfold recsOf
  by_cases hw : within 1 (most + 1) 100000 = true
  · rw [if_pos hw, if_pos hw]
    obtain ⟨k, k1, k2⟩ := trimN_k most (linesOf t)
    rw [k1, lines_drop, k2]
  · rw [if_neg hw, if_neg hw]
/- two slots -/
theorem slots_two {d : DD} (h : diskOk d = true) : ∃ a b, d.slots = [a, b] := by
  have h2 : d.slots.length = 2 := by
    unfold diskOk diskOkF at h
    simp only [Bool.and_eq_true, decide_eq_true_eq] at h
    omega
  match hs : d.slots, h2 with
  | [a, b], _ => exact ⟨a, b, rfl⟩
theorem rall_two (p : Nat → Bool) : rall 2 p = (p 0 && p 1) := by simp [rall, List.range_succ]
theorem diskOk2 {a b : SD} {t : Str} {j : Int} : diskOk ⟨[a, b], t, j⟩ = true ↔ (a.whole = true ∨ b.whole = true) ∧ slotG a = true ∧ slotG b = true ∧ jourOk t j = true := by
  show diskOkF 2 (fun i => ([a, b] : List SD).getD i o0.t) t j = true ↔ _
  unfold diskOkF
  rw [rall_two, rall_two]
  show (decide (((2 : Nat) : Int) = 2) && ((!((!a.whole) && (!b.whole))) && ((slotG a && slotG b) && jourOk t j))) = true ↔ _
  cases a.whole <;> cases b.whole <;> cases slotG a <;> cases slotG b <;> cases jourOk t j <;> simp
theorem bestD2 {a b : SD} {t : Str} {j : Int} : bestD ⟨[a, b], t, j⟩ = if b.whole = true ∧ (¬ a.whole = true ∨ a.seq < b.seq) then 1 else if a.whole = true then 0 else -1 := by
  have e1 : bestF (fun i => ([a, b] : List SD).getD i o0.t) 1 = if a.whole = true then 0 else -1 := by
    simp [bestF]
  unfold bestD
  show bestF (fun i => ([a, b] : List SD).getD i o0.t) (1 + 1) = _
  rw [bestF, e1]
  by_cases ha : a.whole = true
  · simp [ha]
  · simp [ha]
end Go.Proofs.YtjncpgcccgdeiaaGreatDoor

set_option linter.unusedSimpArgs false
set_option linter.unusedVariables false
set_option linter.unnecessarySimpa false
namespace Go.Proofs.YtjncpgcccgdeiaaGreatDoor
open Go Go.RowKit
/- a fall -/
/- the best of two -/
def bst (a b : SD) : SD := if b.whole = true ∧ (¬ a.whole = true ∨ a.seq < b.seq) then b else a
theorem best2 {a b : SD} {t : Str} {j : Int} (h : a.whole = true ∨ b.whole = true) : (DD.slots ⟨[a, b], t, j⟩).getD (bestD ⟨[a, b], t, j⟩).toNat o0.t = bst a b := by
  rw [bestD2]
  unfold bst
  split
  · rfl
  · rename_i h1
    split
    · rfl
    · rename_i h2
      exfalso
      rcases h with h | h
      · exact h2 h
      · exact h1 ⟨h, .inl h2⟩
theorem most2 {a b : SD} {t : Str} {j : Int} (h : a.whole = true ∨ b.whole = true) : mostOf ⟨[a, b], t, j⟩ = (bst a b).seq := congrArg SD.seq (best2 h)
theorem bst_whole {a b : SD} (h : a.whole = true ∨ b.whole = true) : (bst a b).whole = true := by
  unfold bst
  split
  · rename_i h1; exact h1.1
  · rename_i h1
    rcases h with h | h
    · exact h
    · apply Decidable.byContradiction
      intro h2
      exact h1 ⟨h, .inl h2⟩
theorem bst_not_left {x b : SD} (hx : x.whole = false) (hb : b.whole = true) : bst x b = b := by
  unfold bst
  rw [if_pos ⟨hb, .inl (by rw [hx]; decide)⟩]
theorem bst_not_right {a x : SD} (hx : x.whole = false) : bst a x = a := by
  unfold bst
  rw [if_neg]
  rintro ⟨h, _⟩
  rw [hx] at h
  cases h
theorem bst_more_left {x b : SD} (hx : x.whole = true) (hs : b.seq < x.seq) : bst x b = x := by
  unfold bst
  rw [if_neg]
  rintro ⟨_, h | h⟩
  · exact h hx
  · omega
theorem bst_more_right {a x : SD} (hx : x.whole = true) (hs : a.seq < x.seq) : bst a x = x := by
  unfold bst
  rw [if_pos ⟨hx, .inr hs⟩]
theorem slotG_no {x : SD} (h : x.whole = false) : slotG x = true := by rw [slotG, h]; rfl
theorem recov2 {a b : SD} {t : Str} {j : Int} (h : diskOk ⟨[a, b], t, j⟩ = true) : DD.recov ⟨[a, b], t, j⟩ = (applyAll (bst a b).cells (recsOf t ((bst a b).seq + 1)).1, (bst a b).seq + (((recsOf t ((bst a b).seq + 1)).1.length : Nat) : Int)) := by
  have hw := (diskOk2.1 h).1
  rw [DD.recov, if_pos h, recD, best2 hw, most2 hw]
theorem jour_le {t : Str} {j : Int} (h : jourOk t j = true) : t.length ≤ 20000 ∧ 0 ≤ j ∧ j ≤ ((t.length : Nat) : Int) := by
  simp only [jourOk, within, Bool.and_eq_true, decide_eq_true_eq] at h
  exact ⟨by omega, h.2.1, h.2.2⟩
theorem jour_mk {t : Str} {j : Int} (h : t.length ≤ 20000) (h0 : 0 ≤ j) (h1 : j ≤ ((t.length : Nat) : Int)) : jourOk t j = true := by
  simp only [jourOk, within, Bool.and_eq_true, decide_eq_true_eq]
  exact ⟨by omega, h0, h1⟩
/-- A disk that holds what d holds, all of it sure. -/
structure Full (s : List Cell) (n : Int) (e : DD) : Prop where
  ok : diskOk e = true
  rec_ : e.recov = (s, n)
  sure : e.js = ((e.jt.length : Nat) : Int)
theorem disk_ab {d : DD} (h : diskOk d = true) : ∃ a b t j, d = ⟨[a, b], t, j⟩ := by
  obtain ⟨a, b, hs⟩ := slots_two h
  exact ⟨a, b, d.jt, d.js, by cases d; simp only at hs; rw [hs]⟩
/- what a journal holds behind its records -/
theorem within_of {a b c : Int} (h1 : a ≤ b) (h2 : b ≤ c) : within a b c = true := by
  simp only [within, Bool.and_eq_true, decide_eq_true_eq]
  exact ⟨h1, h2⟩
theorem recs_done (t : Str) {f : Int} (hf : within 1 f 100000 = true) : (within 1 (f + (((recsOf t f).1.length : Nat) : Int)) 100000 = true → (recsOf (t.take (recsOf t f).2) (f + (((recsOf t f).1.length : Nat) : Int))).1 = []) ∧
    trimN (f + (((recsOf t f).1.length : Nat) : Int) - 1) (linesOf (t.take (recsOf t f).2)) = (recsOf t f).2 := by
  obtain ⟨k, k1, k2, k3, k4⟩ := recsG_k f (linesOf t) 0
  have e : recsOf t f = recsG f 0 (linesOf t) := by rw [recsOf, if_pos hf]
  rw [e]
  generalize hR : recsG f 0 (linesOf t) = R at *
  have hl : linesOf (t.take R.2) = (linesOf t).take k := by rw [k2, (lines_take t k).1]
  rw [hl]
  have hb : ∀ x ∈ (linesOf t).take k, (readI x).2.2 = true ∧ (readI x).1 < f + ((R.1.length : Nat) : Int) := fun x hx => ⟨(k4 x hx).1, by have := (k4 x hx).2; omega⟩
  constructor
  · intro hw
    rw [recsOf, if_pos hw, hl, recsG_below _ _ hb]
  · rw [trimN_below _ _ fun x hx => ⟨(hb x hx).1, by have := (hb x hx).2; omega⟩, k2]
/- a checkpoint begun -/
theorem foldB2 {a b : SD} {t : Str} {j : Int} (h : diskOk ⟨[a, b], t, j⟩ = true) (hb : (DD.foldB ⟨[a, b], t, j⟩).2 = true) :
    (DD.recov ⟨[a, b], t, j⟩).2 ≤ 99999 ∧ ¬ (DD.recov ⟨[a, b], t, j⟩).2 = (bst a b).seq ∧
    ((bst a b = b ∧ b.whole = true ∧ (DD.foldB ⟨[a, b], t, j⟩).1 = ⟨[⟨(DD.recov ⟨[a, b], t, j⟩).2, (DD.recov ⟨[a, b], t, j⟩).1, false⟩, b], t.take (recsOf t ((bst a b).seq + 1)).2, (((recsOf t ((bst a b).seq + 1)).2 : Nat) : Int)⟩) ∨
     (bst a b = a ∧ a.whole = true ∧ (DD.foldB ⟨[a, b], t, j⟩).1 = ⟨[a, ⟨(DD.recov ⟨[a, b], t, j⟩).2, (DD.recov ⟨[a, b], t, j⟩).1, false⟩], t.take (recsOf t ((bst a b).seq + 1)).2, (((recsOf t ((bst a b).seq + 1)).2 : Nat) : Int)⟩)) := by
  have hw := (diskOk2.1 h).1
  have hc : diskOk ⟨[a, b], t, j⟩ = true ∧ ¬ (99999 : Int) < (DD.recov ⟨[a, b], t, j⟩).2 ∧ ¬ (DD.recov ⟨[a, b], t, j⟩).2 = mostOf ⟨[a, b], t, j⟩ := by
    apply Decidable.byContradiction
    intro hn
    rw [foldB_no hn] at hb
    cases hb
  rw [foldB_yes hc]
  have hm := most2 (t := t) (j := j) hw
  refine ⟨by have := hc.2.1; omega, by rw [← hm]; exact hc.2.2, ?_⟩
  have hd : recD ⟨[a, b], t, j⟩ = recsOf t ((bst a b).seq + 1) := by rw [recD, hm]
  rw [hd]
  have hbd := bestD2 (a := a) (b := b) (t := t) (j := j)
  have hbw := bst_whole hw
  by_cases h1 : b.whole = true ∧ (¬ a.whole = true ∨ a.seq < b.seq)
  · rw [if_pos h1] at hbd
    have hbb : bst a b = b := if_pos h1
    refine .inl ⟨hbb, h1.1, ?_⟩
    rw [hbd]
    rfl
  · rw [if_neg h1] at hbd
    have hbb : bst a b = a := if_neg h1
    rw [hbb] at hbw
    rw [if_pos hbw] at hbd
    refine .inr ⟨hbb, hbw, ?_⟩
    rw [hbd]
    rfl
theorem othD2 {a b : SD} {t : Str} {j : Int} : (b.whole = true → bst a b = b → a.whole = false → othD ⟨[a, b], t, j⟩ = a) ∧ (a.whole = true → b.whole = false → othD ⟨[a, b], t, j⟩ = b) := by
  constructor
  · intro h1 h2 h3
    unfold othD
    rw [bestD2, if_pos ⟨h1, .inl (by rw [h3]; decide)⟩]
    rfl
  · intro h1 h2
    unfold othD
    rw [bestD2, if_neg (by rintro ⟨h, _⟩; rw [h2] at h; cases h), if_pos h1]
    rfl
theorem foldE_two {a b : SD} {t : Str} {j : Int} (hk : (DD.foldE ⟨[a, b], t, j⟩).2 = true) : diskOk ⟨[a, b], t, j⟩ = true ∧ (othD ⟨[a, b], t, j⟩).whole = false ∧ mostOf ⟨[a, b], t, j⟩ < (othD ⟨[a, b], t, j⟩).seq ∧ within 0 (othD ⟨[a, b], t, j⟩).seq 99999 = true ∧ storeOk (othD ⟨[a, b], t, j⟩).cells = true := by
  apply Decidable.byContradiction
  intro hn
  rw [foldE_no hn] at hk
  cases hk
/-- What a checkpoint makes of a disk in order. -/
theorem folds_full {d : DD} (h : diskOk d = true) (hb : d.foldB.2 = true) : Full d.recov.1 d.recov.2 d.foldB.1 ∧ Full d.recov.1 d.recov.2 d.foldB.1.foldE.1 ∧
    (d.foldB.1.foldE.2 = true → mostOf d.foldB.1.foldE.1 = d.recov.2 ∧ trimL d.foldB.1.foldE.1 = d.foldB.1.foldE.1.jt.length) := by
  obtain ⟨a, b, t, j, rfl⟩ := disk_ab h
  obtain ⟨hw, ha, hbG, hj⟩ := diskOk2.1 h
  have hl := jour_le hj
  have hr := recov2 h
  have hle := recsOf_le t ((bst a b).seq + 1)
  have hsG : 0 ≤ (bst a b).seq ∧ (bst a b).seq ≤ 99999 := by
    have := most_range h
    rw [most2 hw] at this
    exact this
  obtain ⟨h9, hne, hcase⟩ := foldB2 h hb
  have hdone := recs_done t (f := (bst a b).seq + 1) (within_of (by omega) (by omega))
  have hclean := recs_clean t ((bst a b).seq + 1)
  have h2 : (DD.recov ⟨[a, b], t, j⟩).2 = (bst a b).seq + (((recsOf t ((bst a b).seq + 1)).1.length : Nat) : Int) := by rw [hr]
  have h1 : (DD.recov ⟨[a, b], t, j⟩).1 = applyAll (bst a b).cells (recsOf t ((bst a b).seq + 1)).1 := by rw [hr]
  generalize hS : (DD.recov ⟨[a, b], t, j⟩).1 = S at *
  generalize hN : (DD.recov ⟨[a, b], t, j⟩).2 = N at *
  generalize hRR : recsOf t ((bst a b).seq + 1) = R at *
  have hlen : (t.take R.2).length = R.2 := by rw [List.length_take]; omega
  have hjm : jourOk (t.take R.2) ((R.2 : Nat) : Int) = true := jour_mk (by omega) (by omega) (by omega)
  have hsure : ((R.2 : Nat) : Int) = (((t.take R.2).length : Nat) : Int) := by rw [hlen]
  have e1 : (bst a b).seq + 1 + ((R.1.length : Nat) : Int) = N + 1 := by omega
  rw [e1] at hdone
  rcases hcase with ⟨hbb, hbw, he⟩ | ⟨hbb, hbw, he⟩
  · rw [he]
    have hok : diskOk ⟨[⟨N, S, false⟩, b], t.take R.2, ((R.2 : Nat) : Int)⟩ = true := diskOk2.2 ⟨.inr hbw, slotG_no rfl, hbG, hjm⟩
    have hbx : bst ⟨N, S, false⟩ b = b := bst_not_left rfl hbw
    have hF : Full S N ⟨[⟨N, S, false⟩, b], t.take R.2, ((R.2 : Nat) : Int)⟩ := ⟨hok, by rw [recov2 hok, hbx, ← hbb, hclean, ← h1, ← h2], hsure⟩
    refine ⟨hF, ?_⟩
    by_cases hk : (DD.foldE ⟨[⟨N, S, false⟩, b], t.take R.2, ((R.2 : Nat) : Int)⟩).2 = true
    · have hc := foldE_two hk
      rw [foldE_yes hc]
      have ho : othD ⟨[⟨N, S, false⟩, b], t.take R.2, ((R.2 : Nat) : Int)⟩ = ⟨N, S, false⟩ := othD2.1 hbw hbx rfl
      have hq : (bestD ⟨[⟨N, S, false⟩, b], t.take R.2, ((R.2 : Nat) : Int)⟩) = 1 := by rw [bestD2, if_pos ⟨hbw, .inl (by simp)⟩]
      rw [ho] at hc ⊢
      rw [hq]
      have hlt : b.seq < N := by have := hc.2.2.1; rw [most2 (.inr hbw), hbx] at this; exact this
      have hok2 : diskOk ⟨[⟨N, S, true⟩, b], t.take R.2, ((R.2 : Nat) : Int)⟩ = true := diskOk2.2 ⟨.inr hbw, by rw [slotG]; simp only [hc.2.2.2.1, hc.2.2.2.2]; rfl, hbG, hjm⟩
      have hbx2 : bst ⟨N, S, true⟩ b = ⟨N, S, true⟩ := bst_more_left rfl hlt
      have hw1 : within 1 (N + 1) 100000 = true := within_of (by omega) (by omega)
      have hm2 : mostOf ⟨[⟨N, S, true⟩, b], t.take R.2, ((R.2 : Nat) : Int)⟩ = N := by rw [most2 (.inl rfl), hbx2]
      refine ⟨⟨hok2, ?_, hsure⟩, fun _ => ⟨hm2, ?_⟩⟩
      · show DD.recov ⟨[⟨N, S, true⟩, b], t.take R.2, ((R.2 : Nat) : Int)⟩ = (S, N)
        rw [recov2 hok2, hbx2]
        show (applyAll S (recsOf (t.take R.2) (N + 1)).1, N + (((recsOf (t.take R.2) (N + 1)).1.length : Nat) : Int)) = (S, N)
        rw [hdone.1 hw1]
        simp [applyAll]
      · show trimL ⟨[⟨N, S, true⟩, b], t.take R.2, ((R.2 : Nat) : Int)⟩ = (t.take R.2).length
        rw [trimL, hm2, hlen]
        have := hdone.2
        rw [show N + 1 - 1 = N by omega] at this
        exact this
    · have hc2 : (DD.foldE ⟨[⟨N, S, false⟩, b], t.take R.2, ((R.2 : Nat) : Int)⟩).1 = ⟨[⟨N, S, false⟩, b], t.take R.2, ((R.2 : Nat) : Int)⟩ := by
        unfold DD.foldE at hk ⊢
        split
        · rename_i hc; rw [if_pos hc] at hk; exact absurd rfl hk
        · rfl
      rw [hc2]
      exact ⟨hF, fun h => absurd h hk⟩
  · rw [he]
    have hok : diskOk ⟨[a, ⟨N, S, false⟩], t.take R.2, ((R.2 : Nat) : Int)⟩ = true := diskOk2.2 ⟨.inl hbw, ha, slotG_no rfl, hjm⟩
    have hbx : bst a ⟨N, S, false⟩ = a := bst_not_right rfl
    have hF : Full S N ⟨[a, ⟨N, S, false⟩], t.take R.2, ((R.2 : Nat) : Int)⟩ := ⟨hok, by rw [recov2 hok, hbx, ← hbb, hclean, ← h1, ← h2], hsure⟩
    refine ⟨hF, ?_⟩
    by_cases hk : (DD.foldE ⟨[a, ⟨N, S, false⟩], t.take R.2, ((R.2 : Nat) : Int)⟩).2 = true
    · have hc := foldE_two hk
      rw [foldE_yes hc]
      have ho : othD ⟨[a, ⟨N, S, false⟩], t.take R.2, ((R.2 : Nat) : Int)⟩ = ⟨N, S, false⟩ := othD2.2 hbw rfl
      have hq : (bestD ⟨[a, ⟨N, S, false⟩], t.take R.2, ((R.2 : Nat) : Int)⟩) = 0 := by rw [bestD2, if_neg (by rintro ⟨h, _⟩; cases h), if_pos hbw]
      rw [ho] at hc ⊢
      rw [hq]
      have hlt : a.seq < N := by have := hc.2.2.1; rw [most2 (.inl hbw), hbx] at this; exact this
      have hok2 : diskOk ⟨[a, ⟨N, S, true⟩], t.take R.2, ((R.2 : Nat) : Int)⟩ = true := diskOk2.2 ⟨.inl hbw, ha, by rw [slotG]; simp only [hc.2.2.2.1, hc.2.2.2.2]; rfl, hjm⟩
      have hbx2 : bst a ⟨N, S, true⟩ = ⟨N, S, true⟩ := bst_more_right rfl hlt
      have hw1 : within 1 (N + 1) 100000 = true := within_of (by omega) (by omega)
      have hm2 : mostOf ⟨[a, ⟨N, S, true⟩], t.take R.2, ((R.2 : Nat) : Int)⟩ = N := by rw [most2 (.inr rfl), hbx2]
      refine ⟨⟨hok2, ?_, hsure⟩, fun _ => ⟨hm2, ?_⟩⟩
      · show DD.recov ⟨[a, ⟨N, S, true⟩], t.take R.2, ((R.2 : Nat) : Int)⟩ = (S, N)
        rw [recov2 hok2, hbx2]
        show (applyAll S (recsOf (t.take R.2) (N + 1)).1, N + (((recsOf (t.take R.2) (N + 1)).1.length : Nat) : Int)) = (S, N)
        rw [hdone.1 hw1]
        simp [applyAll]
      · show trimL ⟨[a, ⟨N, S, true⟩], t.take R.2, ((R.2 : Nat) : Int)⟩ = (t.take R.2).length
        rw [trimL, hm2, hlen]
        have := hdone.2
        rw [show N + 1 - 1 = N by omega] at this
        exact this
    · have hc2 : (DD.foldE ⟨[a, ⟨N, S, false⟩], t.take R.2, ((R.2 : Nat) : Int)⟩).1 = ⟨[a, ⟨N, S, false⟩], t.take R.2, ((R.2 : Nat) : Int)⟩ := by
        unfold DD.foldE at hk ⊢
        split
        · rename_i hc; rw [if_pos hc] at hk; exact absurd rfl hk
        · rfl
      rw [hc2]
      exact ⟨hF, fun h => absurd h hk⟩
theorem trim_full {e : DD} {s : List Cell} {n : Int} (h : Full s n e) : Full s n e.trim := by
  obtain ⟨hok, hr, hs⟩ := h
  obtain ⟨a, b, t, j, rfl⟩ := disk_ab hok
  obtain ⟨hw, ha, hb, hj⟩ := diskOk2.1 hok
  have hl := jour_le hj
  have hle : trimL ⟨[a, b], t, j⟩ ≤ t.length := trimN_le _ _
  have hs' : j = ((t.length : Nat) : Int) := hs
  rw [DD.trim, if_pos hok]
  have hbro : bro (j - ((trimL ⟨[a, b], t, j⟩ : Nat) : Int)) (t.drop (trimL ⟨[a, b], t, j⟩)).length = (t.drop (trimL ⟨[a, b], t, j⟩)).length := by
    unfold bro
    rw [List.length_drop]
    omega
  show Full s n ⟨[a, b], t.drop (trimL ⟨[a, b], t, j⟩), ((bro (j - ((trimL ⟨[a, b], t, j⟩ : Nat) : Int)) (t.drop (trimL ⟨[a, b], t, j⟩)).length : Nat) : Int)⟩
  rw [hbro]
  have hok2 : diskOk ⟨[a, b], t.drop (trimL ⟨[a, b], t, j⟩), (((t.drop (trimL ⟨[a, b], t, j⟩)).length : Nat) : Int)⟩ = true := diskOk2.2 ⟨hw, ha, hb, jour_mk (by rw [List.length_drop]; omega) (by omega) (Int.le_refl _)⟩
  refine ⟨hok2, ?_, rfl⟩
  rw [recov2 hok2, ← hr, recov2 hok, trimL, most2 hw, recs_trim]
theorem folded_snd (d : DD) : d.folded.2 = (d.foldB.2 && d.foldB.1.foldE.2) := by
  by_cases hk : d.foldB.2 = true ∧ (d.foldB.1.foldE).2 = true
  · rw [folded_yes hk, hk.1, hk.2]; rfl
  · rw [folded_no hk]
    cases h1 : d.foldB.2 <;> cases h2 : d.foldB.1.foldE.2 <;> simp_all
theorem foldB_bad {d : DD} (h : diskOk d = false) : d.foldB = (d, false) := foldB_no (by rintro ⟨h1, _⟩; rw [h] at h1; cases h1)
theorem foldB_diskOk {d : DD} (h : d.foldB.2 = true) : diskOk d = true := by
  cases hd : diskOk d with
  | true => rfl
  | false => rw [foldB_bad hd] at h; cases h
/-- What was folded has nothing to fold. -/
theorem fold_twice {d : DD} (h : d.folded.2 = true) : d.folded.1.jt = [] ∧ d.folded.1.folded = (d.folded.1, false) := by
  have hk : d.foldB.2 = true ∧ (d.foldB.1.foldE).2 = true := by
    rw [folded_snd, Bool.and_eq_true] at h
    exact h
  have hok := foldB_diskOk hk.1
  obtain ⟨h1, h2, h3⟩ := folds_full hok hk.1
  obtain ⟨hm, ht⟩ := h3 hk.2
  have h4 := trim_full h2
  rw [folded_yes hk]
  have hj : d.foldB.1.foldE.1.trim.jt = [] := by
    rw [DD.trim, if_pos h2.ok]
    show d.foldB.1.foldE.1.jt.drop (trimL d.foldB.1.foldE.1) = []
    rw [ht]
    exact List.drop_length
  refine ⟨hj, folded_no ?_⟩
  rintro ⟨hb, _⟩
  obtain ⟨a, b, t, j, he⟩ := disk_ab h4.ok
  rw [he] at hj hb h4
  have hj' : t = [] := hj
  subst hj'
  obtain ⟨_, hne, _⟩ := foldB2 h4.ok hb
  apply hne
  rw [recov2 h4.ok]
  have hn : recsOf [] ((bst a b).seq + 1) = ([], 0) := by
    unfold recsOf
    split <;> rfl
  rw [hn]
  simp
end Go.Proofs.YtjncpgcccgdeiaaGreatDoor

set_option linter.unusedSimpArgs false
set_option linter.unusedVariables false
set_option linter.unnecessarySimpa false
namespace Go.Proofs.YtjncpgcccgdeiaaGreatDoor
open Go Go.RowKit
theorem cellUnder : Tryz.prog.underlying 48 = some (.struct (Tryz.prog.fieldsOf 48)) := by kernel_rfl
section
variable {n : Nat} {e : Env} {d : Option Tmp} {ty : TypeId} {pos : String} {aft : Array Edge} {gd : Option (Nat × Bool)}
theorem PO.neqCell {x y : Operand} {a b : Cell} {u : TypeId} (hx : rd n e x = .agg #[str a.1, str a.2]) (hy : rd n e y = .agg #[str b.1, str b.2]) : PO Tryz.prog n e ⟨d, .binOp .neq 48 x y u, ty, pos, aft, gd⟩ (.bool (!decide (a = b))) := fun w => by
  have he : (Op.equalIn 10000 48 (.agg #[str a.1, str a.2]) (.agg #[str b.1, str b.2])).run Tryz.prog w = .ok (decide (a = b)) w := by
    rw [run_equalIn_struct w 9999 48 _ _ cellUnder Tryz.stoodInHeld48]
    rw [show (Tryz.prog.fieldsOf 48).toList = [⟨ "Key", 9, 0, false, "", "", 0⟩, ⟨ "Val", 9, 1, false, "", "", 16⟩] by kernel_rfl]
    have e1 : (Op.equalIn 9999 9 (str a.1) (str b.1)).run Tryz.prog w = .ok (decide (a.1 = b.1)) w := by
      simp only [str]
      rw [run_equalIn_string w 9998 9 _ _ kg]
      simp [beq_dec]
    have e2 : (Op.equalIn 9999 9 (str a.2) (str b.2)).run Tryz.prog w = .ok (decide (a.2 = b.2)) w := by
      simp only [str]
      rw [run_equalIn_string w 9998 9 _ _ kg]
      simp [beq_dec]
    have p1 : ∀ c : Cell, (part 9 #[str c.1, str c.2] 0).run Tryz.prog w = .ok (str c.1) w := fun c => by simp [part, str]
    have p2 : ∀ c : Cell, (part 9 #[str c.1, str c.2] 1).run Tryz.prog w = .ok (str c.2) w := fun c => by simp [part, str]
    simp only [Op.eqFields, Sem.run_bind, p1, p2, e1, e2, Result.andThen_ok, ne_eq, Sem.run_ite, Sem.run_pure]
    obtain ⟨a1, a2⟩ := a
    obtain ⟨b1, b2⟩ := b
    by_cases h1 : a1 = b1 <;> by_cases h2 : a2 = b2 <;> simp [h1, h2, Prod.mk.injEq]

  simp only [execOp, hx, hy, Sem.run_bind, run_eqGuard_agg w .neq 48 x y _ _ Tryz.eqGuardType48, Result.andThen_ok, run_neq_struct, he, Sem.run_pure]
end
attribute [local irreducible] JL JC JQ JO LO PO JA JX Ct

theorem C_sameCells (a b : Option Addr) (c c' : Nat) (s t : List Cell) (hn : s.length ≤ 9223372036854775807) :
    Ct Tryz.prog 34 [.slice a s.length c, .slice b t.length c'] [] (fun w => Sees w (.slice a s.length c) 2 s.length (s.flatMap encC) ∧ Sees w (.slice b t.length c') 2 t.length (t.flatMap encC)) (fun r A' => r = .bool (decide (s = t)) ∧ A' = []) := by
  refine Ct.intro Tryz.func34 rfl Tryz.ntmps34 (lb rfl) fun w0 hpre => ?_
  have hs_a : Sees w0 _ _ _ _ := hpre.1
  have hs_b : Sees w0 _ _ _ _ := hpre.2
  refine jC <| jF <| jA (jG (v := .bool false) rfl) <| jE <| jB <| jC <| jC <| jF <| jA (jD (v := .slice a s.length c) rfl) <| jA (jr kf rfl) ?_
  refine jA (jD (v := .slice b t.length c') rfl) <| jA (jr kf rfl) <| jA (kS rfl rfl) <| jE <| jB ?_
  by_cases h_1 : ((s.length : Nat) : Int) = ((t.length : Nat) : Int)
  · have hlen := h_1
    refine jR (cB (cN (dT h_1))) <| jT <| jB <| jC <| jC <| jF <| jA (jG (v := iv 0) rfl) <| jE <| jB <| jf ?_
    refine kD (fun k_ e_ L_ => ∃ j : Nat, (j ≤ s.length) ∧ (s.take j = t.take j) ∧ (s.length = t.length) ∧ e_ 0 = .slice a s.length c ∧ e_ 1 = .slice b t.length c' ∧ e_ 5 = nv j ∧ L_ = [] ∧ k_ = s.length - j) _ ⟨0, by omega, rfl, by omega, rfl, rfl, rfl, rfl, rfl⟩ ?_
    rintro _ e_2 _ ⟨j, hj, hE, hln, he_3, he_4, he_5, rfl, rfl⟩
    refine jC <| jC <| jF <| jA (jD (v := nv j) he_5) <| jA (jD (v := .slice a s.length c) he_3) <| jA (jr kf rfl) <| jA (jl rfl rfl) <| jE <| jB ?_
    by_cases h_6 : ((j : Nat) : Int) < ((s.length : Nat) : Int)
    · have hlt : j < s.length := by omega
      refine jW (cB (dT h_6)) <| jT <| jB <| jC <| jf <| jC <| kJ [] 8 mixed (by simp) <| jL 0 rfl (jD (v := .slice a s.length c) he_3) <| jL 1 rfl (jD (v := nv j) he_5) ?_
      obtain ⟨hr_7, hr_7b, -⟩ := sees_some hs_a (by omega)
      refine jL 2 rfl (jk (i := j) kf kh hr_7 hr_7b rfl rfl (by omega)) <| jw 3 rfl (kX (vs := [str ((s.getD j c0).1), str ((s.getD j c0).2)]) hs_a nM rfl gG kh (atC (by omega)) rfl (by decide)) <| jL 4 rfl (jD (v := .slice b t.length c') he_4) <| jL 5 rfl (jD (v := nv j) he_5) ?_
      obtain ⟨hr_8, hr_8b, -⟩ := sees_some hs_b (by omega)
      refine jL 6 rfl (jk (i := j) kf kh hr_8 hr_8b rfl rfl (by omega)) <| jw 7 rfl (kX (vs := [str ((t.getD j c0).1), str ((t.getD j c0).2)]) hs_b nM rfl gG kh (atC (by omega)) rfl (by decide)) <| jL 8 rfl (PO.neqCell (a := s.getD j c0) (b := t.getD j c0) rfl rfl) <| kI (by kernel_rfl) <| jB ?_
      by_cases h_9 : s.getD j c0 = t.getD j c0
      · have heq := h_9
        refine jR (cB (cN (dT h_9))) <| jT <| jm <| jB <| jF <| jA (jD (v := nv j) he_5) <| jA (jc (c := ((j + 1 : Nat) : Int)) rfl rfl (wr (by omega))) <| jA (jG (v := iv ((j + 1 : Nat) : Int)) rfl) <| jE ?_
        refine jq (s.length - (j + 1)) (by omega) ⟨j + 1, by omega, take_succ_eq c0 hE hlt hln heq, hln, he_3, he_4, rfl, rfl, rfl⟩
      have hne := h_9
      refine jW (cB (cN (dF h_9))) <| jC <| jF <| jA (jG (v := .bool false) rfl) <| jE <| jB <| jN <| jv <| jX <| jX ?_
      refine jv <| jX <| jV (.inl rfl) rfl (jJ (v := .bool false) rfl) (List.nil_sublist _) ?_
      refine ⟨?_, rfl⟩
      rw [dF (fun h => hne (by rw [h]))]
    refine jR (cB (dF h_6)) <| jx <| jb <| jb <| jy <| jB <| jC <| jF <| jA (jG (v := .bool true) rfl) <| jE ?_
    refine jB <| jN <| jV (.inl rfl) rfl (jJ (v := .bool true) rfl) (List.nil_sublist _) ?_
    refine ⟨?_, rfl⟩
    rw [dT (take_all_eq hE (by omega) (by omega))]
  have hlen := h_1
  refine jW (cB (cN (dF h_1))) <| jC <| jF <| jA (jG (v := .bool false) rfl) <| jE <| jB <| jN <| jX <| jV (.inl rfl) rfl (jJ (v := .bool false) rfl) (List.nil_sublist _) ?_
  refine ⟨?_, rfl⟩
  rw [dF (fun h => by rw [h] at hlen; omega)]

end Go.Proofs.YtjncpgcccgdeiaaGreatDoor
