/-
  Texts of the walk, joined: what each one proves stands at its theorems.
-/
import Derived.Test.YtjncpgcccgdeiaaGreatDoorS58FOLD
import Derived.Test.YtjncpgcccgdeiaaGreatDoorOpenZ
import Derived.Test.YtjncpgcccgdeiaaGreatDoorSlStr
import Derived.Laws.StructEq
import Derived.Test.YtjncpgcccgdeiaaGreatDoorS46OK
import Derived.Lib.Strings
set_option linter.unusedSimpArgs false
set_option linter.unusedVariables false
set_option linter.unnecessarySimpa false
namespace Go.Proofs.YtjncpgcccgdeiaaGreatDoor
open Go Go.RowKit
section
variable {P : Program} {n : Nat} {e : Env} {d : Option Tmp} {ty : TypeId} {pos : String} {aft : Array Edge} {gd : Option (Nat × Bool)}
theorem PO.fieldK {x : Operand} {t k : TypeId} {fs : Array Field} {f : Field} {i : Nat} {cs : Array Value} {vs : List Value} (ht : P.underlying t = some (.struct fs)) (hf : fs[i]? = some f) (hx : rd n e x = .agg cs) (ha : ∀ w, (isAgg f.type).run P w = .ok true w) (hs : ∀ w, (sizeOf f.type).run P w = .ok k w)
    (hc : cs.extract f.offset (f.offset + k) = vs.toArray) : PO P n e ⟨d, .field t x i, ty, pos, aft, gd⟩ (.agg vs.toArray) := fun w => by
  simp [execOp, hx, Instr.field, run_underlying ht, hf, part, ha, hs, hc, asAgg]
end
attribute [local irreducible] JL JC JQ JO LO PO JA JX Ct

set_option maxRecDepth 4000 in
set_option maxHeartbeats 1000000 in
theorem Y_sOther (d : DX) (hz : d.dat.okz) (hl : d.dat.lim 1000000000) (q : Nat) (hq : bestD d.dat = ((q : Nat) : Int)) (hq2 : q < 2) :
    Ct Tryz.prog 71 [.agg #[.slice d.a d.l.length d.c, str d.jt, .int .i64 d.js]] [] (fun w => SeesA w (rdsD d)) (fun v A' => v = .int .i64 ((1 - q : Nat) : Int) ∧ A' = []) := by
  refine Ct.intro Tryz.func71 rfl Tryz.ntmps71 (lb rfl) fun w0 hpre => ?_
  have hs_1 : Sees w0 (.slice d.a d.l.length d.c) 3 d.l.length (d.l.flatMap encO) := (hpre).head
  have hi_2 : SeesA w0 (d.l.flatMap rdsO) := (hpre).tail
  have hjt := hz.k2
  have hdl : d.l.length ≤ 1000000000 := by have := hl.l0; simpa only [DX.dat, List.length_map] using this
  refine jC <| jF ?_
  refine jH rfl (kG (cs := [.slice d.a d.l.length d.c, str d.jt, iv d.js]) rfl rfl) ?_
  rintro _ _ ⟨b_3, rfl, rfl⟩
  refine jA (jG (v := iv 0) rfl) <| jE <| jB <| jC <| jF <| jK (jO 0 (vs := [.slice d.a d.l.length d.c, str d.jt, iv d.js]) rfl rfl ke kd rfl rfl) ?_
  refine jH rfl (jI [] Tryz.call49 rfl (Y_sBestN d hz (by omega) q hq) rfl (fun w hw => hw.seeOutA hpre nMA)) ?_
  rintro _ _ ⟨_, ⟨rfl, rfl⟩, rfl⟩
  refine jA (kZ (c := ((1 - q : Nat) : Int)) rfl rfl (wr (by omega))) <| jA (jG (v := iv ((1 - q : Nat) : Int)) rfl) <| jE <| jB <| jN <| jV (.inl rfl) rfl (jJ (v := iv ((1 - q : Nat) : Int)) rfl) (List.nil_sublist _) ?_
  exact ⟨rfl, rfl⟩

set_option maxRecDepth 4000 in
set_option maxHeartbeats 1000000 in
theorem Y_sFoldB (d : DX) (hz : d.dat.okz) (hl : d.dat.lim 1000000000) :
    Ct Tryz.prog 20 [.agg #[.slice d.a d.l.length d.c, str d.jt, .int .i64 d.js]] [] (fun w => SeesA w (rdsD d)) (fun v A' => ∃ y : DX, y.dat = d.dat.foldB.1 ∧ v = .tuple #[.agg #[.slice y.a y.l.length y.c, str y.jt, .int .i64 y.js], .bool d.dat.foldB.2] ∧ A' = [.rows (rdsD y)]) := by
  refine Ct.intro Tryz.func20 rfl Tryz.ntmps20 (lb rfl) fun w0 hpre => ?_
  have hs_1 : Sees w0 (.slice d.a d.l.length d.c) 3 d.l.length (d.l.flatMap encO) := (hpre).head
  have hi_2 : SeesA w0 (d.l.flatMap rdsO) := (hpre).tail
  have hjt := hz.k2
  have hdl : d.l.length ≤ 1000000000 := by have := hl.l0; simpa only [DX.dat, List.length_map] using this
  refine jC <| jF ?_
  refine jH rfl (kG (cs := [.slice d.a d.l.length d.c, str d.jt, iv d.js]) rfl rfl) ?_
  rintro _ _ ⟨b_3, rfl, rfl⟩
  refine jH rfl (jo (z := .agg #[.slice none 0 0, str [], iv 0]) (cs := [.slice none 0 0, str [], iv 0]) ko rfl) ?_
  rintro _ _ ⟨b_4, rfl, rfl⟩
  refine jA (jG (v := .bool false) rfl) <| jE <| jB <| jC <| jF <| jK (jO 1 (vs := [.slice d.a d.l.length d.c, str d.jt, iv d.js]) rfl rfl ke kd rfl rfl) ?_
  refine jH rfl (jI [] Tryz.call56 rfl (Z_specl23Copy d hl) rfl (fun w hw => hw.seeOutA hpre nMA)) ?_
  rintro _ _ ⟨_, ⟨y_5, hy_6, rfl, rfl⟩, rfl⟩
  refine jH rfl (ja 2 (vs := [.slice y_5.a y_5.l.length y_5.c, str y_5.jt, iv y_5.js]) (cs' := [.slice y_5.a y_5.l.length y_5.c, str y_5.jt, iv y_5.js]) rfl rfl rfl rfl kd rfl rfl (lb rfl) rfl) ?_
  rintro _ _ rfl
  refine jE <| jB <| jC ?_
  have hzy : y_5.dat.okz := by rw [hy_6]; exact hz
  have hly : y_5.dat.lim 1000000000 := by rw [hy_6]; exact hl
  have hyl : y_5.l.length = d.l.length := by have e_ := congrArg (fun q : DD => q.slots.length) hy_6; simpa only [DX.dat, List.length_map] using e_
  have hyt : y_5.jt = d.jt := congrArg DD.jt hy_6
  have hytl : y_5.jt.length = d.jt.length := by rw [hyt]
  refine jF <| jK (jO 2 (vs := [.slice y_5.a y_5.l.length y_5.c, str y_5.jt, iv y_5.js]) rfl rfl ke kd rfl rfl) ?_
  refine jH rfl (jI [] Tryz.call43 rfl (Y_sRecov y_5 hzy hly) rfl (fun w hw => hw.seeRows 0 rfl)) ?_
  rintro _ _ ⟨_, ⟨a_7, c_8, rfl, rfl⟩, rfl⟩
  refine jA (jD (v := .tuple #[.slice a_7 y_5.dat.recov.1.length c_8, iv y_5.dat.recov.2]) rfl) <| jA (je (v := .slice a_7 y_5.dat.recov.1.length c_8) rfl rfl) <| jA (je (v := iv y_5.dat.recov.2) rfl rfl) <| jA (jG (v := .slice a_7 y_5.dat.recov.1.length c_8) rfl) <| jA (jG (v := iv y_5.dat.recov.2) rfl) <| jE <| jB <| jC <| jC <| kT (L' := [Res.row (.slice y_5.a y_5.l.length y_5.c) 60 3 y_5.l.length (y_5.l.flatMap encO), Res.rows (y_5.l.flatMap rdsO), rC a_7 c_8 y_5.dat.recov.1, bk b_4 31 [.slice none 0 0, str [], iv 0], bk b_3 31 [.slice y_5.a y_5.l.length y_5.c, str y_5.jt, iv y_5.js]]) (fun w hw => hw.headR (r := ⟨.slice y_5.a y_5.l.length y_5.c, 60, 3, y_5.l.length, y_5.l.flatMap encO⟩) (A := y_5.l.flatMap rdsO) 1 rfl) ?_
  refine kJ [Res.row (.slice y_5.a y_5.l.length y_5.c) 60 3 y_5.l.length (y_5.l.flatMap encO), Res.rows (y_5.l.flatMap rdsO), rC a_7 c_8 y_5.dat.recov.1, bk b_4 31 [.slice none 0 0, str [], iv 0], bk b_3 31 [.slice y_5.a y_5.l.length y_5.c, str y_5.jt, iv y_5.js]] 1000 mixed (by simp) <| jw 0 rfl (jO 4 (vs := [.slice y_5.a y_5.l.length y_5.c, str y_5.jt, iv y_5.js]) rfl rfl ke kd rfl rfl) <| jj (i := 1) ?_
  refine jz rfl rfl (jI [] Tryz.call42 rfl (Y_specDiskOk y_5 hzy (by omega)) rfl (fun w hw => SeesA.cons (hw.see (i := 0) rfl) (hw.seeRows 1 rfl))) ?_
  rintro _ _ ⟨_, ⟨rfl, rfl⟩, rfl⟩
  refine ⟨by simp, ?_⟩
  refine jL 2 rfl (jp rfl) <| jL 3 rfl (jD (v := .bool (!(diskOk y_5.dat))) rfl) ?_
  rcases Bool.eq_false_or_eq_true (diskOk y_5.dat) with h_9 | h_9
  · obtain ⟨q, hq, hql⟩ := diskOk_best h_9
    have hql : q < y_5.l.length := by simpa only [DX.dat, List.length_map] using hql
    have hjr := diskOk_jour h_9
    have hjr2 : ((y_5.jt.length : Nat) : Int) ≤ 20000 ∧ 0 ≤ y_5.js ∧ y_5.js ≤ ((y_5.jt.length : Nat) : Int) := by have h_ : jourOk y_5.jt y_5.js = true := hjr; simpa only [jourOk, within, Bool.and_eq_true, decide_eq_true_eq, and_assoc] using h_
    have hmost : (y_5.l.getD q o0).t.seq = mostOf y_5.dat := by rw [mostOf, hq, Int.toNat_natCast]; exact congrArg SD.seq getD_map'.symm
    have hmr := most_range h_9
    have hl2 := disk_two h_9
    refine jg 4 rfl (by kernel_rfl) (NP.th (NP.th NP.body)) (by kernel_rfl) (by kernel_rfl) rfl rfl rfl (cB (cN h_9)) (jD (v := iv y_5.dat.recov.2) rfl) <| jg 5 rfl (by kernel_rfl) (NP.th (NP.th NP.body)) (by kernel_rfl) (by kernel_rfl) rfl rfl rfl (cB (cN h_9)) (kR rfl rfl) <| jL 6 rfl (ji (v := .bool (decide (99999 < y_5.dat.recov.2))) (cB (cN h_9)) rfl) <| jL 7 rfl (jD (v := .bool (decide (99999 < y_5.dat.recov.2))) rfl) ?_
    by_cases h_10 : 99999 < y_5.dat.recov.2
    · refine jd 8 (b := true) rfl (by kernel_rfl) (NP.th (NP.th NP.body)) (by kernel_rfl) (by kernel_rfl) rfl rfl rfl (cB (dT h_10)) <| jd 9 (b := true) rfl (by kernel_rfl) (NP.th (NP.th NP.body)) (by kernel_rfl) (by kernel_rfl) rfl rfl rfl (cB (dT h_10)) <| jd 10 (b := true) rfl (by kernel_rfl) (NP.th (NP.th NP.body)) (by kernel_rfl) (by kernel_rfl) rfl rfl rfl (cB (dT h_10)) <| jd 11 (b := true) rfl (by kernel_rfl) (NP.th (NP.th NP.body)) (by kernel_rfl) (by kernel_rfl) rfl rfl rfl (cB (dT h_10)) <| jd 12 (b := true) rfl (by kernel_rfl) (NP.th (NP.th NP.body)) (by kernel_rfl) (by kernel_rfl) rfl rfl rfl (cB (dT h_10)) <| jd 13 (b := true) rfl (by kernel_rfl) (NP.th (NP.th NP.body)) (by kernel_rfl) (by kernel_rfl) rfl rfl rfl (cB (dT h_10)) <| jd 14 (b := true) rfl (by kernel_rfl) (NP.th (NP.th NP.body)) (by kernel_rfl) (by kernel_rfl) rfl rfl rfl (cB (dT h_10)) <| jd 15 (b := true) rfl (by kernel_rfl) (NP.th (NP.th NP.body)) (by kernel_rfl) (by kernel_rfl) rfl rfl rfl (cB (dT h_10)) <| jd 16 (b := true) rfl (by kernel_rfl) (NP.th (NP.th NP.body)) (by kernel_rfl) (by kernel_rfl) rfl rfl rfl (cB (dT h_10)) <| jL 17 rfl (jh (v := .bool true) (cB (dT h_10)) rfl) ?_
      refine kI (by kernel_rfl) <| jB <| jW (cB rfl) <| jC <| jF <| jK (jO 4 (vs := [.slice y_5.a y_5.l.length y_5.c, str y_5.jt, iv y_5.js]) rfl rfl ke kd rfl rfl) ?_
      refine jH rfl (ja 3 (vs := [.slice y_5.a y_5.l.length y_5.c, str y_5.jt, iv y_5.js]) (cs' := [.slice y_5.a y_5.l.length y_5.c, str y_5.jt, iv y_5.js]) rfl rfl rfl rfl kd rfl rfl (lb rfl) rfl) ?_
      rintro _ _ rfl
      refine jA (jG (v := .bool false) rfl) <| jE <| jB <| jN <| jX <| ju (L' := [Res.rows (rdsOS y_5.a y_5.c y_5.l), rC a_7 c_8 y_5.dat.recov.1, bk b_4 31 [.slice y_5.a y_5.l.length y_5.c, str y_5.jt, iv y_5.js], bk b_3 31 [.slice y_5.a y_5.l.length y_5.c, str y_5.jt, iv y_5.js]]) (fun w hw => hw.consR (r := ⟨.slice y_5.a y_5.l.length y_5.c, 60, 3, y_5.l.length, y_5.l.flatMap encO⟩) (A := y_5.l.flatMap rdsO) [0, 0] rfl) <| kC (.inl rfl) rfl (kA (jO 2 (vs := [.slice y_5.a y_5.l.length y_5.c, str y_5.jt, iv y_5.js]) rfl rfl ke kd rfl rfl) ⟨_, rfl⟩) (jJ (v := .bool false) rfl) (tS 1 _) ?_
      have he := foldB_no (d := y_5.dat) (by rintro ⟨h_1, h_2⟩; first | omega | simp_all)
      rw [hy_6] at he
      exact ⟨y_5, (hy_6).trans (congrArg Prod.fst he).symm, by rw [he], rfl⟩
    refine jg 8 rfl (by kernel_rfl) (NP.th (NP.th NP.body)) (by kernel_rfl) (by kernel_rfl) rfl rfl rfl (cB (dF h_10)) (jD (v := iv y_5.dat.recov.2) rfl) <| jg 9 rfl (by kernel_rfl) (NP.th (NP.th NP.body)) (by kernel_rfl) (by kernel_rfl) rfl rfl rfl (cB (dF h_10)) (jQ fo31_0 rfl) <| kK 10 rfl (by kernel_rfl) (NP.th (NP.th NP.body)) (by kernel_rfl) (by kernel_rfl) (by kernel_rfl) rfl rfl rfl (cB (dF h_10)) (jZ 4 (v := .slice y_5.a y_5.l.length y_5.c) rfl rfl ks rfl) <| kK 11 rfl (by kernel_rfl) (NP.th (NP.th NP.body)) (by kernel_rfl) (by kernel_rfl) (by kernel_rfl) rfl rfl rfl (cB (dF h_10)) (jO 4 (vs := [.slice y_5.a y_5.l.length y_5.c, str y_5.jt, iv y_5.js]) rfl rfl ke kd rfl rfl) <| jj (i := 12) ?_
    refine kQ rfl rfl rfl rfl (cB (dF h_10)) (jI [] Tryz.call49 rfl (Y_sBestN y_5 hzy (by omega) q hq) rfl (fun w hw => SeesA.cons (hw.see (i := 0) rfl) (hw.seeRows 1 rfl))) ?_
    rintro _ _ ⟨_, ⟨rfl, rfl⟩, rfl⟩
    refine ⟨by simp, ?_⟩
    refine JA.facts fun hst => ?_
    obtain ⟨hr_11, hr_11b, -⟩ := row_some 0 rfl (by omega) hst
    refine jg 13 rfl (by kernel_rfl) (NP.th (NP.th NP.body)) (by kernel_rfl) (by kernel_rfl) rfl rfl rfl (cB (dF h_10)) (jk (i := q) km kj hr_11 hr_11b rfl rfl (by omega)) <| jg 14 rfl (by kernel_rfl) (NP.th (NP.th NP.body)) (by kernel_rfl) (by kernel_rfl) rfl rfl rfl (cB (dF h_10)) (kL fo60_0 hr_11 rfl) <| kK 15 rfl (by kernel_rfl) (NP.th (NP.th NP.body)) (by kernel_rfl) (by kernel_rfl) (by kernel_rfl) rfl rfl rfl (cB (dF h_10)) (ka 0 (v := iv ((y_5.l.getD q o0).t.seq)) rfl rfl kq (flat_at encO_len o0 y_5.l q 0 (by omega) (by decide))) <| jg 16 rfl (by kernel_rfl) (NP.th (NP.th NP.body)) (by kernel_rfl) (by kernel_rfl) rfl rfl rfl (cB (dF h_10)) (kO rfl rfl) <| jL 17 rfl (ji (v := .bool (decide (y_5.dat.recov.2 = ((y_5.l.getD q o0).t.seq)))) (cB (dF h_10)) rfl) <| kI (by kernel_rfl) <| jB ?_
    by_cases h_12 : y_5.dat.recov.2 = ((y_5.l.getD q o0).t.seq)
    · refine jW (cB (dT h_12)) <| jC <| jF <| jK (jO 4 (vs := [.slice y_5.a y_5.l.length y_5.c, str y_5.jt, iv y_5.js]) rfl rfl ke kd rfl rfl) ?_
      refine jH rfl (ja 3 (vs := [.slice y_5.a y_5.l.length y_5.c, str y_5.jt, iv y_5.js]) (cs' := [.slice y_5.a y_5.l.length y_5.c, str y_5.jt, iv y_5.js]) rfl rfl rfl rfl kd rfl rfl (lb rfl) rfl) ?_
      rintro _ _ rfl
      refine jA (jG (v := .bool false) rfl) <| jE <| jB <| jN <| jX <| ju (L' := [Res.rows (rdsOS y_5.a y_5.c y_5.l), rC a_7 c_8 y_5.dat.recov.1, bk b_4 31 [.slice y_5.a y_5.l.length y_5.c, str y_5.jt, iv y_5.js], bk b_3 31 [.slice y_5.a y_5.l.length y_5.c, str y_5.jt, iv y_5.js]]) (fun w hw => hw.consR (r := ⟨.slice y_5.a y_5.l.length y_5.c, 60, 3, y_5.l.length, y_5.l.flatMap encO⟩) (A := y_5.l.flatMap rdsO) [0, 0] rfl) <| kC (.inl rfl) rfl (kA (jO 2 (vs := [.slice y_5.a y_5.l.length y_5.c, str y_5.jt, iv y_5.js]) rfl rfl ke kd rfl rfl) ⟨_, rfl⟩) (jJ (v := .bool false) rfl) (tS 1 _) ?_
      have he := foldB_no (d := y_5.dat) (by rintro ⟨h_1, h_2⟩; first | omega | simp_all)
      rw [hy_6] at he
      exact ⟨y_5, (hy_6).trans (congrArg Prod.fst he).symm, by rw [he], rfl⟩
    refine jR (cB (dF h_12)) <| jT <| jB <| jC <| jF <| jK (jO 4 (vs := [.slice y_5.a y_5.l.length y_5.c, str y_5.jt, iv y_5.js]) rfl rfl ke kd rfl rfl) ?_
    refine jH rfl (jI [] Tryz.call18 rfl (Y_sClean y_5 hzy hly) rfl (fun w hw => SeesA.cons (hw.see (i := 0) rfl) (hw.seeRows 1 rfl))) ?_
    rintro _ _ ⟨_, ⟨y_13, hy_14, rfl, rfl⟩, rfl⟩
    refine jA (PO.fieldK (vs := [str y_13.jt, iv y_13.js]) Tryz.underlying31 rfl rfl kp kl (by kernel_rfl)) <| jA (jQ fo31_1 rfl) ?_
    refine jH rfl (ja 5 (vs := [str y_13.jt, iv y_13.js]) (cs' := [.slice y_5.a y_5.l.length y_5.c, str y_13.jt, iv y_13.js]) rfl rfl rfl rfl kl rfl rfl (lb rfl) rfl) ?_
    rintro _ _ rfl
    refine jE <| jB <| jC ?_
    have hzc : y_13.dat.okz := by rw [hy_14]; exact clean_okz hzy
    have hzl : y_5.l.length = 2 := disk_two h_9
    refine kJ [Res.rows (rdsD y_13), Res.row (.slice y_5.a y_5.l.length y_5.c) 60 3 y_5.l.length (y_5.l.flatMap encO), Res.rows (y_5.l.flatMap rdsO), rC a_7 c_8 y_5.dat.recov.1, bk b_4 31 [.slice none 0 0, str [], iv 0], bk b_3 31 [.slice y_5.a y_5.l.length y_5.c, str y_13.jt, iv y_13.js]] 7 mixed (by simp) <| jL 0 rfl (jQ fo31_0 rfl) <| jw 1 rfl (jZ 5 (v := .slice y_5.a y_5.l.length y_5.c) rfl rfl ks rfl) <| jw 2 rfl (jO 5 (vs := [.slice y_5.a y_5.l.length y_5.c, str y_13.jt, iv y_13.js]) rfl rfl ke kd rfl rfl) <| jL 4 rfl (jD (v := iv y_5.dat.recov.2) rfl) <| jL 5 rfl (jD (v := .slice a_7 y_5.dat.recov.1.length c_8) rfl) <| jL 6 rfl (kW (ps := [(0, iv y_5.dat.recov.2), (1, .slice a_7 y_5.dat.recov.1.length c_8)]) (cs := [iv y_5.dat.recov.2, .slice a_7 y_5.dat.recov.1.length c_8, .bool false]) rfl (by kernel_rfl)) <| jj (i := 3) ?_
    refine jz rfl rfl (jI [] Tryz.call71 rfl (Y_sOther (⟨y_5.a, y_5.c, y_5.l, y_13.jt, y_13.js⟩ : DX) ⟨hzy.k0, hzy.k1, hzc.k2⟩ ⟨hly.l0, hly.l1⟩ q hq (by omega)) rfl (fun w hw => SeesA.cons (hw.see (i := 1) rfl) (hw.seeRows 2 rfl))) ?_
    rintro _ _ ⟨_, ⟨rfl, rfl⟩, rfl⟩
    refine ⟨by simp, ?_⟩
    refine jL 7 rfl (jk (i := (1 - q)) km kj hr_11 hr_11b rfl rfl (by omega)) <| jj (i := 8) ?_
    refine JX.ls rfl (JO.storeR 1 (vs := [iv y_5.dat.recov.2, .slice a_7 y_5.dat.recov.1.length c_8, .bool false]) (cs' := (y_5.l.set (1 - q) (⟨⟨a_7, c_8⟩, ⟨y_5.dat.recov.2, y_5.dat.recov.1, false⟩⟩ : OX)).flatMap encO) rfl rfl rfl rfl kj rfl rfl (by decide) (by rw [flat_length encO_len]; omega) (flat_set encO_len y_5.l (1 - q) (⟨⟨a_7, c_8⟩, ⟨y_5.dat.recov.2, y_5.dat.recov.1, false⟩⟩ : OX) (by omega))) ?_
    rintro _ _ rfl
    refine jB <| jC <| jF <| jK (jO 5 (vs := [.slice y_5.a y_5.l.length y_5.c, str y_13.jt, iv y_13.js]) rfl rfl ke kd rfl rfl) ?_
    refine jH rfl (ja 4 (vs := [.slice y_5.a y_5.l.length y_5.c, str y_13.jt, iv y_13.js]) (cs' := [.slice y_5.a y_5.l.length y_5.c, str y_13.jt, iv y_13.js]) rfl rfl rfl rfl kd rfl rfl (lb rfl) rfl) ?_
    rintro _ _ rfl
    refine jA (jG (v := .bool true) rfl) <| jE <| jB <| jN ?_
    have hi1 : 1 - q < y_5.l.length := by omega
    refine ju (L' := [Res.rows ((y_5.l.take (1 - q)).flatMap rdsO), Res.rows (rdsO (y_5.l.getD (1 - q) o0)), Res.rows ((y_5.l.drop (1 - q + 1)).flatMap rdsO), Res.rows (rdsD y_13), Res.row (.slice y_5.a y_5.l.length y_5.c) 60 3 y_5.l.length ((y_5.l.set (1 - q) (⟨⟨a_7, c_8⟩, ⟨y_5.dat.recov.2, y_5.dat.recov.1, false⟩⟩ : OX)).flatMap encO), rC a_7 c_8 y_5.dat.recov.1, bk b_4 31 [.slice y_5.a y_5.l.length y_5.c, str y_13.jt, iv y_13.js], bk b_3 31 [.slice y_5.a y_5.l.length y_5.c, str y_13.jt, iv y_13.js]]) (fun w hw => hw.splitR 2 rfl (flatMap_at o0 hi1)) <| ju (L' := [Res.rows (rdsO (⟨⟨a_7, c_8⟩, ⟨y_5.dat.recov.2, y_5.dat.recov.1, false⟩⟩ : OX)), Res.rows ((y_5.l.take (1 - q)).flatMap rdsO), Res.rows (rdsO (y_5.l.getD (1 - q) o0)), Res.rows ((y_5.l.drop (1 - q + 1)).flatMap rdsO), Res.rows (rdsD y_13), Res.row (.slice y_5.a y_5.l.length y_5.c) 60 3 y_5.l.length ((y_5.l.set (1 - q) (⟨⟨a_7, c_8⟩, ⟨y_5.dat.recov.2, y_5.dat.recov.1, false⟩⟩ : OX)).flatMap encO), bk b_4 31 [.slice y_5.a y_5.l.length y_5.c, str y_13.jt, iv y_13.js], bk b_3 31 [.slice y_5.a y_5.l.length y_5.c, str y_13.jt, iv y_13.js]]) (fun w hw => hw.closeR (A := rdsO (⟨⟨a_7, c_8⟩, ⟨y_5.dat.recov.2, y_5.dat.recov.1, false⟩⟩ : OX)) [5] rfl) <| ju (L' := [Res.rows ((y_5.l.set (1 - q) (⟨⟨a_7, c_8⟩, ⟨y_5.dat.recov.2, y_5.dat.recov.1, false⟩⟩ : OX)).flatMap rdsO), Res.rows (rdsO (y_5.l.getD (1 - q) o0)), Res.rows (rdsD y_13), Res.row (.slice y_5.a y_5.l.length y_5.c) 60 3 y_5.l.length ((y_5.l.set (1 - q) (⟨⟨a_7, c_8⟩, ⟨y_5.dat.recov.2, y_5.dat.recov.1, false⟩⟩ : OX)).flatMap encO), bk b_4 31 [.slice y_5.a y_5.l.length y_5.c, str y_13.jt, iv y_13.js], bk b_3 31 [.slice y_5.a y_5.l.length y_5.c, str y_13.jt, iv y_13.js]]) (fun w hw => hw.joinR [1, 0, 1] rfl (flatMap_setAt hi1)) <| ju (L' := [Res.rows ((y_5.l.set (1 - q) (⟨⟨a_7, c_8⟩, ⟨y_5.dat.recov.2, y_5.dat.recov.1, false⟩⟩ : OX)).flatMap rdsO), Res.rows (rdsO (y_5.l.getD (1 - q) o0)), Res.rows (rdsD y_13), Res.row (.slice y_5.a ((y_5.l.set (1 - q) (⟨⟨a_7, c_8⟩, ⟨y_5.dat.recov.2, y_5.dat.recov.1, false⟩⟩ : OX)).length) y_5.c) 60 3 ((y_5.l.set (1 - q) (⟨⟨a_7, c_8⟩, ⟨y_5.dat.recov.2, y_5.dat.recov.1, false⟩⟩ : OX)).length) ((y_5.l.set (1 - q) (⟨⟨a_7, c_8⟩, ⟨y_5.dat.recov.2, y_5.dat.recov.1, false⟩⟩ : OX)).flatMap encO), bk b_4 31 [.slice y_5.a y_5.l.length y_5.c, str y_13.jt, iv y_13.js], bk b_3 31 [.slice y_5.a y_5.l.length y_5.c, str y_13.jt, iv y_13.js]]) (fun w hw => hw.eqL (by simp only [List.length_set])) <| ju (L' := [Res.rows (rdsOS y_5.a y_5.c (y_5.l.set (1 - q) (⟨⟨a_7, c_8⟩, ⟨y_5.dat.recov.2, y_5.dat.recov.1, false⟩⟩ : OX))), Res.rows (rdsO (y_5.l.getD (1 - q) o0)), Res.rows (rdsD y_13), bk b_4 31 [.slice y_5.a y_5.l.length y_5.c, str y_13.jt, iv y_13.js], bk b_3 31 [.slice y_5.a y_5.l.length y_5.c, str y_13.jt, iv y_13.js]]) (fun w hw => hw.consR (r := ⟨.slice y_5.a ((y_5.l.set (1 - q) (⟨⟨a_7, c_8⟩, ⟨y_5.dat.recov.2, y_5.dat.recov.1, false⟩⟩ : OX)).length) y_5.c, 60, 3, (y_5.l.set (1 - q) (⟨⟨a_7, c_8⟩, ⟨y_5.dat.recov.2, y_5.dat.recov.1, false⟩⟩ : OX)).length, (y_5.l.set (1 - q) (⟨⟨a_7, c_8⟩, ⟨y_5.dat.recov.2, y_5.dat.recov.1, false⟩⟩ : OX)).flatMap encO⟩) (A := (y_5.l.set (1 - q) (⟨⟨a_7, c_8⟩, ⟨y_5.dat.recov.2, y_5.dat.recov.1, false⟩⟩ : OX)).flatMap rdsO) [3, 0] rfl) <| kC (.inl rfl) rfl (kA (jO 3 (vs := [.slice y_5.a y_5.l.length y_5.c, str y_13.jt, iv y_13.js]) rfl rfl ke kd rfl rfl) ⟨_, rfl⟩) (jJ (v := .bool true) rfl) (tS 1 _) ?_
    have he := foldB_yes (d := y_5.dat) ⟨h_9, by omega, by omega⟩
    have hc := hy_14
    rw [DD.clean, if_pos h_9] at hc
    have hf := (congrArg Prod.fst he).symm
    refine ⟨(⟨y_5.a, y_5.c, y_5.l.set (1 - q) (⟨⟨a_7, c_8⟩, ⟨y_5.dat.recov.2, y_5.dat.recov.1, false⟩⟩ : OX), y_13.jt, y_13.js⟩ : DX), ?_, by simp only [← hy_6, he, List.length_set], rfl⟩
    rw [← hy_6, he]
    exact fold_dat rfl (congrArg DD.jt hc) (congrArg DD.js hc) hq rfl
  refine jd 4 (b := true) rfl (by kernel_rfl) (NP.th (NP.th NP.body)) (by kernel_rfl) (by kernel_rfl) rfl rfl rfl (cB (cN h_9)) <| jd 5 (b := true) rfl (by kernel_rfl) (NP.th (NP.th NP.body)) (by kernel_rfl) (by kernel_rfl) rfl rfl rfl (cB (cN h_9)) <| jL 6 rfl (jh (v := .bool true) (cB (cN h_9)) rfl) <| jL 7 rfl (jD (v := .bool true) rfl) <| jd 8 (b := true) rfl (by kernel_rfl) (NP.th (NP.th NP.body)) (by kernel_rfl) (by kernel_rfl) rfl rfl rfl (cB rfl) <| jd 9 (b := true) rfl (by kernel_rfl) (NP.th (NP.th NP.body)) (by kernel_rfl) (by kernel_rfl) rfl rfl rfl (cB rfl) <| jd 10 (b := true) rfl (by kernel_rfl) (NP.th (NP.th NP.body)) (by kernel_rfl) (by kernel_rfl) rfl rfl rfl (cB rfl) <| jd 11 (b := true) rfl (by kernel_rfl) (NP.th (NP.th NP.body)) (by kernel_rfl) (by kernel_rfl) rfl rfl rfl (cB rfl) <| jd 12 (b := true) rfl (by kernel_rfl) (NP.th (NP.th NP.body)) (by kernel_rfl) (by kernel_rfl) rfl rfl rfl (cB rfl) <| jd 13 (b := true) rfl (by kernel_rfl) (NP.th (NP.th NP.body)) (by kernel_rfl) (by kernel_rfl) rfl rfl rfl (cB rfl) ?_
  refine jd 14 (b := true) rfl (by kernel_rfl) (NP.th (NP.th NP.body)) (by kernel_rfl) (by kernel_rfl) rfl rfl rfl (cB rfl) <| jd 15 (b := true) rfl (by kernel_rfl) (NP.th (NP.th NP.body)) (by kernel_rfl) (by kernel_rfl) rfl rfl rfl (cB rfl) <| jd 16 (b := true) rfl (by kernel_rfl) (NP.th (NP.th NP.body)) (by kernel_rfl) (by kernel_rfl) rfl rfl rfl (cB rfl) <| jL 17 rfl (jh (v := .bool true) (cB rfl) rfl) <| kI (by kernel_rfl) <| jB <| jW (cB rfl) <| jC <| jF <| jK (jO 4 (vs := [.slice y_5.a y_5.l.length y_5.c, str y_5.jt, iv y_5.js]) rfl rfl ke kd rfl rfl) ?_
  refine jH rfl (ja 3 (vs := [.slice y_5.a y_5.l.length y_5.c, str y_5.jt, iv y_5.js]) (cs' := [.slice y_5.a y_5.l.length y_5.c, str y_5.jt, iv y_5.js]) rfl rfl rfl rfl kd rfl rfl (lb rfl) rfl) ?_
  rintro _ _ rfl
  refine jA (jG (v := .bool false) rfl) <| jE <| jB <| jN <| jX <| ju (L' := [Res.rows (rdsOS y_5.a y_5.c y_5.l), rC a_7 c_8 y_5.dat.recov.1, bk b_4 31 [.slice y_5.a y_5.l.length y_5.c, str y_5.jt, iv y_5.js], bk b_3 31 [.slice y_5.a y_5.l.length y_5.c, str y_5.jt, iv y_5.js]]) (fun w hw => hw.consR (r := ⟨.slice y_5.a y_5.l.length y_5.c, 60, 3, y_5.l.length, y_5.l.flatMap encO⟩) (A := y_5.l.flatMap rdsO) [0, 0] rfl) <| kC (.inl rfl) rfl (kA (jO 2 (vs := [.slice y_5.a y_5.l.length y_5.c, str y_5.jt, iv y_5.js]) rfl rfl ke kd rfl rfl) ⟨_, rfl⟩) (jJ (v := .bool false) rfl) (tS 1 _) ?_
  have he := foldB_no (d := y_5.dat) (by rintro ⟨h_1, h_2⟩; first | omega | simp_all)
  rw [hy_6] at he
  exact ⟨y_5, (hy_6).trans (congrArg Prod.fst he).symm, by rw [he], rfl⟩

set_option maxRecDepth 4000 in
set_option maxHeartbeats 1000000 in
theorem Y_sFoldE (d : DX) (hz : d.dat.okz) (hl : d.dat.lim 1000000000) :
    Ct Tryz.prog 38 [.agg #[.slice d.a d.l.length d.c, str d.jt, .int .i64 d.js]] [] (fun w => SeesA w (rdsD d)) (fun v A' => ∃ y : DX, y.dat = d.dat.foldE.1 ∧ v = .tuple #[.agg #[.slice y.a y.l.length y.c, str y.jt, .int .i64 y.js], .bool d.dat.foldE.2] ∧ A' = [.rows (rdsD y)]) := by
  refine Ct.intro Tryz.func38 rfl Tryz.ntmps38 (lb rfl) fun w0 hpre => ?_
  have hs_1 : Sees w0 (.slice d.a d.l.length d.c) 3 d.l.length (d.l.flatMap encO) := (hpre).head
  have hi_2 : SeesA w0 (d.l.flatMap rdsO) := (hpre).tail
  have hjt := hz.k2
  have hdl : d.l.length ≤ 1000000000 := by have := hl.l0; simpa only [DX.dat, List.length_map] using this
  refine jC <| jF ?_
  refine jH rfl (kG (cs := [.slice d.a d.l.length d.c, str d.jt, iv d.js]) rfl rfl) ?_
  rintro _ _ ⟨b_3, rfl, rfl⟩
  refine jH rfl (jo (z := .agg #[.slice none 0 0, str [], iv 0]) (cs := [.slice none 0 0, str [], iv 0]) ko rfl) ?_
  rintro _ _ ⟨b_4, rfl, rfl⟩
  refine jA (jG (v := .bool false) rfl) <| jE <| jB <| jC <| jF <| jK (jO 1 (vs := [.slice d.a d.l.length d.c, str d.jt, iv d.js]) rfl rfl ke kd rfl rfl) ?_
  refine jH rfl (jI [] Tryz.call56 rfl (Z_specl23Copy d hl) rfl (fun w hw => hw.seeOutA hpre nMA)) ?_
  rintro _ _ ⟨_, ⟨y_5, hy_6, rfl, rfl⟩, rfl⟩
  refine jH rfl (ja 2 (vs := [.slice y_5.a y_5.l.length y_5.c, str y_5.jt, iv y_5.js]) (cs' := [.slice y_5.a y_5.l.length y_5.c, str y_5.jt, iv y_5.js]) rfl rfl rfl rfl kd rfl rfl (lb rfl) rfl) ?_
  rintro _ _ rfl
  refine jE <| jB <| jC <| jC ?_
  have hzy : y_5.dat.okz := by rw [hy_6]; exact hz
  have hly : y_5.dat.lim 1000000000 := by rw [hy_6]; exact hl
  have hyl : y_5.l.length = d.l.length := by have e_ := congrArg (fun q : DD => q.slots.length) hy_6; simpa only [DX.dat, List.length_map] using e_
  have hyt : y_5.jt = d.jt := congrArg DD.jt hy_6
  have hytl : y_5.jt.length = d.jt.length := by rw [hyt]
  refine jF <| jK (jO 2 (vs := [.slice y_5.a y_5.l.length y_5.c, str y_5.jt, iv y_5.js]) rfl rfl ke kd rfl rfl) ?_
  refine jH rfl (jI [] Tryz.call42 rfl (Y_specDiskOk y_5 hzy (by omega)) rfl (fun w hw => hw.seeRows 0 rfl)) ?_
  rintro _ _ ⟨_, ⟨rfl, rfl⟩, rfl⟩
  refine jA (jp rfl) <| jE <| jB ?_
  rcases Bool.eq_false_or_eq_true (diskOk y_5.dat) with h_7 | h_7
  · obtain ⟨q, hq, hql⟩ := diskOk_best h_7
    have hql : q < y_5.l.length := by simpa only [DX.dat, List.length_map] using hql
    have hjr := diskOk_jour h_7
    have hjr2 : ((y_5.jt.length : Nat) : Int) ≤ 20000 ∧ 0 ≤ y_5.js ∧ y_5.js ≤ ((y_5.jt.length : Nat) : Int) := by have h_ : jourOk y_5.jt y_5.js = true := hjr; simpa only [jourOk, within, Bool.and_eq_true, decide_eq_true_eq, and_assoc] using h_
    have hmost : (y_5.l.getD q o0).t.seq = mostOf y_5.dat := by rw [mostOf, hq, Int.toNat_natCast]; exact congrArg SD.seq getD_map'.symm
    have hmr := most_range h_7
    have hl2 := disk_two h_7
    refine jR (cB (cN h_7)) <| jT <| jB <| jC <| jF <| jK (jO 2 (vs := [.slice y_5.a y_5.l.length y_5.c, str y_5.jt, iv y_5.js]) rfl rfl ke kd rfl rfl) ?_
    refine jH rfl (jI [] Tryz.call71 rfl (Y_sOther y_5 hzy hly q hq (by omega)) rfl (fun w hw => hw.seeRows 0 rfl)) ?_
    rintro _ _ ⟨_, ⟨rfl, rfl⟩, rfl⟩
    refine jA (jG (v := iv ((1 - q : Nat) : Int)) rfl) <| jE <| jB <| jC <| kT (L' := [Res.row (.slice y_5.a y_5.l.length y_5.c) 60 3 y_5.l.length (y_5.l.flatMap encO), Res.rows (y_5.l.flatMap rdsO), bk b_4 31 [.slice none 0 0, str [], iv 0], bk b_3 31 [.slice y_5.a y_5.l.length y_5.c, str y_5.jt, iv y_5.js]]) (fun w hw => hw.headR (r := ⟨.slice y_5.a y_5.l.length y_5.c, 60, 3, y_5.l.length, y_5.l.flatMap encO⟩) (A := y_5.l.flatMap rdsO) 0 rfl) <| jF <| jA (jQ fo31_0 rfl) <| jK (jZ 3 (v := .slice y_5.a y_5.l.length y_5.c) rfl rfl ks rfl) <| jA (jD (v := iv ((1 - q : Nat) : Int)) rfl) ?_
    refine kN fun hst => ?_
    obtain ⟨hr_8, hr_8b, -⟩ := row_some 0 rfl (by omega) hst
    refine jA (jk (i := (1 - q)) km kj hr_8 hr_8b rfl rfl (by omega)) <| jK (LO.loadRK 0 (vs := [iv ((y_5.l.getD (1 - q) o0).t.seq), .slice ((y_5.l.getD (1 - q) o0).x.a0) ((y_5.l.getD (1 - q) o0).t.cells.length) ((y_5.l.getD (1 - q) o0).x.c0), .bool ((y_5.l.getD (1 - q) o0).t.whole)]) rfl rfl gB kj (flat_take encO_len o0 y_5.l (1 - q) (by omega)) rfl (by decide)) ?_
    refine jH rfl (jo (z := .agg #[iv 0, .slice none 0 0, .bool false]) (cs := [iv 0, .slice none 0 0, .bool false]) gD rfl) ?_
    rintro _ _ ⟨b_9, rfl, rfl⟩
    refine jH rfl (ja 0 (vs := [iv ((y_5.l.getD (1 - q) o0).t.seq), .slice ((y_5.l.getD (1 - q) o0).x.a0) ((y_5.l.getD (1 - q) o0).t.cells.length) ((y_5.l.getD (1 - q) o0).x.c0), .bool ((y_5.l.getD (1 - q) o0).t.whole)]) (cs' := [iv ((y_5.l.getD (1 - q) o0).t.seq), .slice ((y_5.l.getD (1 - q) o0).x.a0) ((y_5.l.getD (1 - q) o0).t.cells.length) ((y_5.l.getD (1 - q) o0).x.c0), .bool ((y_5.l.getD (1 - q) o0).t.whole)]) rfl rfl rfl rfl kj rfl rfl (lb rfl) rfl) ?_
    rintro _ _ rfl
    refine jE <| jB <| jC <| jC <| kJ [bk b_9 60 [iv ((y_5.l.getD (1 - q) o0).t.seq), .slice ((y_5.l.getD (1 - q) o0).x.a0) ((y_5.l.getD (1 - q) o0).t.cells.length) ((y_5.l.getD (1 - q) o0).x.c0), .bool ((y_5.l.getD (1 - q) o0).t.whole)], Res.row (.slice y_5.a y_5.l.length y_5.c) 60 3 y_5.l.length (y_5.l.flatMap encO), Res.rows (y_5.l.flatMap rdsO), bk b_4 31 [.slice none 0 0, str [], iv 0], bk b_3 31 [.slice y_5.a y_5.l.length y_5.c, str y_5.jt, iv y_5.js]] 1000 mixed (by simp) <| jL 0 rfl (jQ fo60_2 rfl) <| jw 1 rfl (jZ 0 (v := .bool ((y_5.l.getD (1 - q) o0).t.whole)) rfl rfl gI rfl) <| jL 2 rfl (jD (v := .bool ((y_5.l.getD (1 - q) o0).t.whole)) rfl) ?_
    rcases Bool.eq_false_or_eq_true ((y_5.l.getD (1 - q) o0).t.whole) with h_10 | h_10
    · refine jd 3 (b := true) rfl (by kernel_rfl) (NP.th (NP.th NP.body)) (by kernel_rfl) (by kernel_rfl) rfl rfl rfl (cB h_10) <| jd 4 (b := true) rfl (by kernel_rfl) (NP.th (NP.th NP.body)) (by kernel_rfl) (by kernel_rfl) rfl rfl rfl (cB h_10) <| jd 5 (b := true) rfl (by kernel_rfl) (NP.th (NP.th NP.body)) (by kernel_rfl) (by kernel_rfl) rfl rfl rfl (cB h_10) <| jd 6 (b := true) rfl (by kernel_rfl) (NP.th (NP.th NP.body)) (by kernel_rfl) (by kernel_rfl) rfl rfl rfl (cB h_10) <| jd 7 (b := true) rfl (by kernel_rfl) (NP.th (NP.th NP.body)) (by kernel_rfl) (by kernel_rfl) rfl rfl rfl (cB h_10) <| jd 8 (b := true) rfl (by kernel_rfl) (NP.th (NP.th NP.body)) (by kernel_rfl) (by kernel_rfl) rfl rfl rfl (cB h_10) <| jd 9 (b := true) rfl (by kernel_rfl) (NP.th (NP.th NP.body)) (by kernel_rfl) (by kernel_rfl) rfl rfl rfl (cB h_10) <| jd 10 (b := true) rfl (by kernel_rfl) (NP.th (NP.th NP.body)) (by kernel_rfl) (by kernel_rfl) rfl rfl rfl (cB h_10) <| jd 11 (b := true) rfl (by kernel_rfl) (NP.th (NP.th NP.body)) (by kernel_rfl) (by kernel_rfl) rfl rfl rfl (cB h_10) <| jd 12 (b := true) rfl (by kernel_rfl) (NP.th (NP.th NP.body)) (by kernel_rfl) (by kernel_rfl) rfl rfl rfl (cB h_10) ?_
      refine jL 13 rfl (jh (v := .bool true) (cB h_10) rfl) <| jL 14 rfl (jD (v := .bool true) rfl) <| jd 15 (b := true) rfl (by kernel_rfl) (NP.th (NP.th NP.body)) (by kernel_rfl) (by kernel_rfl) rfl rfl rfl (cB rfl) <| jd 16 (b := true) rfl (by kernel_rfl) (NP.th (NP.th NP.body)) (by kernel_rfl) (by kernel_rfl) rfl rfl rfl (cB rfl) <| jd 17 (b := true) rfl (by kernel_rfl) (NP.th (NP.th NP.body)) (by kernel_rfl) (by kernel_rfl) rfl rfl rfl (cB rfl) <| jd 18 (b := true) rfl (by kernel_rfl) (NP.th (NP.th NP.body)) (by kernel_rfl) (by kernel_rfl) rfl rfl rfl (cB rfl) <| jL 19 rfl (jh (v := .bool true) (cB rfl) rfl) <| jL 20 rfl (jD (v := .bool true) rfl) <| jd 21 (b := true) rfl (by kernel_rfl) (NP.th (NP.th NP.body)) (by kernel_rfl) (by kernel_rfl) rfl rfl rfl (cB rfl) <| jd 22 (b := true) rfl (by kernel_rfl) (NP.th (NP.th NP.body)) (by kernel_rfl) (by kernel_rfl) rfl rfl rfl (cB rfl) ?_
      refine jd 23 (b := true) rfl (by kernel_rfl) (NP.th (NP.th NP.body)) (by kernel_rfl) (by kernel_rfl) rfl rfl rfl (cB rfl) <| jd 24 (b := true) rfl (by kernel_rfl) (NP.th (NP.th NP.body)) (by kernel_rfl) (by kernel_rfl) rfl rfl rfl (cB rfl) <| jL 25 rfl (jh (v := .bool true) (cB rfl) rfl) <| kI (by kernel_rfl) <| jB <| jW (cB rfl) <| jC <| jF <| jK (jO 4 (vs := [.slice y_5.a y_5.l.length y_5.c, str y_5.jt, iv y_5.js]) rfl rfl ke kd rfl rfl) ?_
      refine jH rfl (ja 3 (vs := [.slice y_5.a y_5.l.length y_5.c, str y_5.jt, iv y_5.js]) (cs' := [.slice y_5.a y_5.l.length y_5.c, str y_5.jt, iv y_5.js]) rfl rfl rfl rfl kd rfl rfl (lb rfl) rfl) ?_
      rintro _ _ rfl
      refine jA (jG (v := .bool false) rfl) <| jE <| jB <| jN <| jX <| ju (L' := [Res.rows (rdsOS y_5.a y_5.c y_5.l), bk b_9 60 [iv ((y_5.l.getD (1 - q) o0).t.seq), .slice ((y_5.l.getD (1 - q) o0).x.a0) ((y_5.l.getD (1 - q) o0).t.cells.length) ((y_5.l.getD (1 - q) o0).x.c0), .bool ((y_5.l.getD (1 - q) o0).t.whole)], bk b_4 31 [.slice y_5.a y_5.l.length y_5.c, str y_5.jt, iv y_5.js], bk b_3 31 [.slice y_5.a y_5.l.length y_5.c, str y_5.jt, iv y_5.js]]) (fun w hw => hw.consR (r := ⟨.slice y_5.a y_5.l.length y_5.c, 60, 3, y_5.l.length, y_5.l.flatMap encO⟩) (A := y_5.l.flatMap rdsO) [1, 1] rfl) <| kC (.inl rfl) rfl (kA (jO 2 (vs := [.slice y_5.a y_5.l.length y_5.c, str y_5.jt, iv y_5.js]) rfl rfl ke kd rfl rfl) ⟨_, rfl⟩) (jJ (v := .bool false) rfl) (tS 1 _) ?_
      have hoth : othD y_5.dat = (y_5.l.getD (1 - q) o0).t := by rw [othD, hq, Int.toNat_natCast]; exact getD_map'
      have he := foldE_no (d := y_5.dat) (by rw [hoth]; rintro ⟨h_1, h_2, h_3, h_4, h_5⟩; first | omega | simp_all)
      rw [hy_6] at he
      exact ⟨y_5, (hy_6).trans (congrArg Prod.fst he).symm, by rw [he], rfl⟩
    refine jg 3 rfl (by kernel_rfl) (NP.th (NP.th NP.body)) (by kernel_rfl) (by kernel_rfl) rfl rfl rfl (cB h_10) (jQ fo60_0 rfl) <| kK 4 rfl (by kernel_rfl) (NP.th (NP.th NP.body)) (by kernel_rfl) (by kernel_rfl) (by kernel_rfl) rfl rfl rfl (cB h_10) (jZ 0 (v := iv ((y_5.l.getD (1 - q) o0).t.seq)) rfl rfl kq rfl) <| jg 5 rfl (by kernel_rfl) (NP.th (NP.th NP.body)) (by kernel_rfl) (by kernel_rfl) rfl rfl rfl (cB h_10) (jQ fo31_0 rfl) <| kK 6 rfl (by kernel_rfl) (NP.th (NP.th NP.body)) (by kernel_rfl) (by kernel_rfl) (by kernel_rfl) rfl rfl rfl (cB h_10) (jZ 4 (v := .slice y_5.a y_5.l.length y_5.c) rfl rfl ks rfl) <| jg 7 rfl (by kernel_rfl) (NP.th (NP.th NP.body)) (by kernel_rfl) (by kernel_rfl) rfl rfl rfl (cB h_10) (jD (v := iv ((1 - q : Nat) : Int)) rfl) <| jg 8 rfl (by kernel_rfl) (NP.th (NP.th NP.body)) (by kernel_rfl) (by kernel_rfl) rfl rfl rfl (cB h_10) (kZ (c := ((q : Nat) : Int)) rfl rfl (wr (by omega))) <| jg 9 rfl (by kernel_rfl) (NP.th (NP.th NP.body)) (by kernel_rfl) (by kernel_rfl) rfl rfl rfl (cB h_10) (jk (i := q) km kj hr_8 hr_8b rfl rfl (by omega)) <| jg 10 rfl (by kernel_rfl) (NP.th (NP.th NP.body)) (by kernel_rfl) (by kernel_rfl) rfl rfl rfl (cB h_10) (kL fo60_0 hr_8 rfl) <| kK 11 rfl (by kernel_rfl) (NP.th (NP.th NP.body)) (by kernel_rfl) (by kernel_rfl) (by kernel_rfl) rfl rfl rfl (cB h_10) (ka 1 (v := iv ((y_5.l.getD q o0).t.seq)) rfl rfl kq (flat_at encO_len o0 y_5.l q 0 (by omega) (by decide))) <| jg 12 rfl (by kernel_rfl) (NP.th (NP.th NP.body)) (by kernel_rfl) (by kernel_rfl) rfl rfl rfl (cB h_10) (PO.leq rfl rfl) ?_
    refine jL 13 rfl (ji (v := .bool (decide (((y_5.l.getD (1 - q) o0).t.seq) ≤ ((y_5.l.getD q o0).t.seq)))) (cB h_10) rfl) <| jL 14 rfl (jD (v := .bool (decide (((y_5.l.getD (1 - q) o0).t.seq) ≤ ((y_5.l.getD q o0).t.seq)))) rfl) ?_
    by_cases h_11 : ((y_5.l.getD (1 - q) o0).t.seq) ≤ ((y_5.l.getD q o0).t.seq)
    · refine jd 15 (b := true) rfl (by kernel_rfl) (NP.th (NP.th NP.body)) (by kernel_rfl) (by kernel_rfl) rfl rfl rfl (cB (dT h_11)) <| jd 16 (b := true) rfl (by kernel_rfl) (NP.th (NP.th NP.body)) (by kernel_rfl) (by kernel_rfl) rfl rfl rfl (cB (dT h_11)) <| jd 17 (b := true) rfl (by kernel_rfl) (NP.th (NP.th NP.body)) (by kernel_rfl) (by kernel_rfl) rfl rfl rfl (cB (dT h_11)) <| jd 18 (b := true) rfl (by kernel_rfl) (NP.th (NP.th NP.body)) (by kernel_rfl) (by kernel_rfl) rfl rfl rfl (cB (dT h_11)) <| jL 19 rfl (jh (v := .bool true) (cB (dT h_11)) rfl) <| jL 20 rfl (jD (v := .bool true) rfl) <| jd 21 (b := true) rfl (by kernel_rfl) (NP.th (NP.th NP.body)) (by kernel_rfl) (by kernel_rfl) rfl rfl rfl (cB rfl) <| jd 22 (b := true) rfl (by kernel_rfl) (NP.th (NP.th NP.body)) (by kernel_rfl) (by kernel_rfl) rfl rfl rfl (cB rfl) <| jd 23 (b := true) rfl (by kernel_rfl) (NP.th (NP.th NP.body)) (by kernel_rfl) (by kernel_rfl) rfl rfl rfl (cB rfl) <| jd 24 (b := true) rfl (by kernel_rfl) (NP.th (NP.th NP.body)) (by kernel_rfl) (by kernel_rfl) rfl rfl rfl (cB rfl) ?_
      refine jL 25 rfl (jh (v := .bool true) (cB rfl) rfl) <| kI (by kernel_rfl) <| jB <| jW (cB rfl) <| jC <| jF <| jK (jO 4 (vs := [.slice y_5.a y_5.l.length y_5.c, str y_5.jt, iv y_5.js]) rfl rfl ke kd rfl rfl) ?_
      refine jH rfl (ja 3 (vs := [.slice y_5.a y_5.l.length y_5.c, str y_5.jt, iv y_5.js]) (cs' := [.slice y_5.a y_5.l.length y_5.c, str y_5.jt, iv y_5.js]) rfl rfl rfl rfl kd rfl rfl (lb rfl) rfl) ?_
      rintro _ _ rfl
      refine jA (jG (v := .bool false) rfl) <| jE <| jB <| jN <| jX <| ju (L' := [Res.rows (rdsOS y_5.a y_5.c y_5.l), bk b_9 60 [iv ((y_5.l.getD (1 - q) o0).t.seq), .slice ((y_5.l.getD (1 - q) o0).x.a0) ((y_5.l.getD (1 - q) o0).t.cells.length) ((y_5.l.getD (1 - q) o0).x.c0), .bool ((y_5.l.getD (1 - q) o0).t.whole)], bk b_4 31 [.slice y_5.a y_5.l.length y_5.c, str y_5.jt, iv y_5.js], bk b_3 31 [.slice y_5.a y_5.l.length y_5.c, str y_5.jt, iv y_5.js]]) (fun w hw => hw.consR (r := ⟨.slice y_5.a y_5.l.length y_5.c, 60, 3, y_5.l.length, y_5.l.flatMap encO⟩) (A := y_5.l.flatMap rdsO) [1, 1] rfl) <| kC (.inl rfl) rfl (kA (jO 2 (vs := [.slice y_5.a y_5.l.length y_5.c, str y_5.jt, iv y_5.js]) rfl rfl ke kd rfl rfl) ⟨_, rfl⟩) (jJ (v := .bool false) rfl) (tS 1 _) ?_
      have hoth : othD y_5.dat = (y_5.l.getD (1 - q) o0).t := by rw [othD, hq, Int.toNat_natCast]; exact getD_map'
      have he := foldE_no (d := y_5.dat) (by rw [hoth]; rintro ⟨h_1, h_2, h_3, h_4, h_5⟩; first | omega | simp_all)
      rw [hy_6] at he
      exact ⟨y_5, (hy_6).trans (congrArg Prod.fst he).symm, by rw [he], rfl⟩
    refine jg 15 rfl (by kernel_rfl) (NP.th (NP.th NP.body)) (by kernel_rfl) (by kernel_rfl) rfl rfl rfl (cB (dF h_11)) (jQ fo60_1 rfl) <| kK 16 rfl (by kernel_rfl) (NP.th (NP.th NP.body)) (by kernel_rfl) (by kernel_rfl) (by kernel_rfl) rfl rfl rfl (cB (dF h_11)) (jZ 0 (v := .slice ((y_5.l.getD (1 - q) o0).x.a0) ((y_5.l.getD (1 - q) o0).t.cells.length) ((y_5.l.getD (1 - q) o0).x.c0)) rfl rfl kz rfl) <| jj (i := 17) ?_
    refine kQ rfl rfl rfl rfl (cB (dF h_11)) (jI [] Tryz.call53 rfl (Y_specStoreOk (y_5.l.getD (1 - q) o0).x.a0 ((y_5.l.getD (1 - q) o0).x.c0) ((y_5.l.getD (1 - q) o0).t.cells) (hzy.k1 _ (List.mem_map_of_mem (getD_mem (d := o0) (by omega)))).k0) rfl (fun w hw => (seesO ((hw.seeRows 2 rfl).elem o0 (by omega))))) ?_
    rintro _ _ ⟨_, ⟨rfl, rfl⟩, rfl⟩
    refine ⟨by simp, ?_⟩
    refine jg 18 rfl (by kernel_rfl) (NP.th (NP.th NP.body)) (by kernel_rfl) (by kernel_rfl) rfl rfl rfl (cB (dF h_11)) (jp rfl) <| jL 19 rfl (ji (v := .bool (!(storeOk ((y_5.l.getD (1 - q) o0).t.cells)))) (cB (dF h_11)) rfl) <| jL 20 rfl (jD (v := .bool (!(storeOk ((y_5.l.getD (1 - q) o0).t.cells)))) rfl) ?_
    rcases Bool.eq_false_or_eq_true (storeOk ((y_5.l.getD (1 - q) o0).t.cells)) with h_12 | h_12
    · refine jg 21 rfl (by kernel_rfl) (NP.th (NP.th NP.body)) (by kernel_rfl) (by kernel_rfl) rfl rfl rfl (cB (cN h_12)) (jQ fo60_0 rfl) <| kK 22 rfl (by kernel_rfl) (NP.th (NP.th NP.body)) (by kernel_rfl) (by kernel_rfl) (by kernel_rfl) rfl rfl rfl (cB (cN h_12)) (jZ 0 (v := iv ((y_5.l.getD (1 - q) o0).t.seq)) rfl rfl kq rfl) <| jj (i := 23) ?_
      refine kQ rfl rfl rfl rfl (cB (cN h_12)) (jI [] Tryz.call89 rfl (Y_l01In ((y_5.l.getD (1 - q) o0).t.seq) 0 99999) rfl (fun _ _ => trivial)) ?_
      rintro _ _ ⟨_, ⟨rfl, rfl⟩, rfl⟩
      refine ⟨by simp, ?_⟩
      refine jg 24 rfl (by kernel_rfl) (NP.th (NP.th NP.body)) (by kernel_rfl) (by kernel_rfl) rfl rfl rfl (cB (cN h_12)) (jp rfl) <| jL 25 rfl (ji (v := .bool (!(within 0 ((y_5.l.getD (1 - q) o0).t.seq) 99999))) (cB (cN h_12)) rfl) <| kI (by kernel_rfl) <| jB ?_
      rcases Bool.eq_false_or_eq_true (within 0 ((y_5.l.getD (1 - q) o0).t.seq) 99999) with h_13 | h_13
      · refine jR (cB (cN h_13)) <| jT <| jB <| jC <| jF <| jA (jQ fo31_0 rfl) <| jK (jZ 4 (v := .slice y_5.a y_5.l.length y_5.c) rfl rfl ks rfl) <| jA (jD (v := iv ((1 - q : Nat) : Int)) rfl) <| jA (jk (i := (1 - q)) km kj hr_8 hr_8b rfl rfl (by omega)) <| jA (kL fo60_2 hr_8 rfl) ?_
        refine jH rfl (JO.storeR 1 (vs := [.bool true]) (cs' := (y_5.l.set (1 - q) (⟨⟨(y_5.l.getD (1 - q) o0).x.a0, ((y_5.l.getD (1 - q) o0).x.c0)⟩, ⟨(y_5.l.getD (1 - q) o0).t.seq, (y_5.l.getD (1 - q) o0).t.cells, true⟩⟩ : OX)).flatMap encO) rfl rfl rfl rfl Tryz.sizeOf4 rfl rfl (by decide) (by rw [flat_length encO_len]; omega) (flat_set1 encO_len o0 (f := 2) (y := (⟨⟨(y_5.l.getD (1 - q) o0).x.a0, ((y_5.l.getD (1 - q) o0).x.c0)⟩, ⟨(y_5.l.getD (1 - q) o0).t.seq, (y_5.l.getD (1 - q) o0).t.cells, true⟩⟩ : OX)) (by omega) (by decide) rfl)) ?_
        rintro _ _ rfl
        refine jE <| jB <| jC <| jF <| jK (jO 4 (vs := [.slice y_5.a y_5.l.length y_5.c, str y_5.jt, iv y_5.js]) rfl rfl ke kd rfl rfl) ?_
        refine jH rfl (ja 3 (vs := [.slice y_5.a y_5.l.length y_5.c, str y_5.jt, iv y_5.js]) (cs' := [.slice y_5.a y_5.l.length y_5.c, str y_5.jt, iv y_5.js]) rfl rfl rfl rfl kd rfl rfl (lb rfl) rfl) ?_
        rintro _ _ rfl
        refine jA (jG (v := .bool true) rfl) <| jE <| jB <| jN <| ju (L' := [Res.rows ((y_5.l.set (1 - q) (⟨⟨(y_5.l.getD (1 - q) o0).x.a0, ((y_5.l.getD (1 - q) o0).x.c0)⟩, ⟨(y_5.l.getD (1 - q) o0).t.seq, (y_5.l.getD (1 - q) o0).t.cells, true⟩⟩ : OX)).flatMap rdsO), bk b_9 60 [iv ((y_5.l.getD (1 - q) o0).t.seq), .slice ((y_5.l.getD (1 - q) o0).x.a0) ((y_5.l.getD (1 - q) o0).t.cells.length) ((y_5.l.getD (1 - q) o0).x.c0), .bool ((y_5.l.getD (1 - q) o0).t.whole)], Res.row (.slice y_5.a y_5.l.length y_5.c) 60 3 y_5.l.length ((y_5.l.set (1 - q) (⟨⟨(y_5.l.getD (1 - q) o0).x.a0, ((y_5.l.getD (1 - q) o0).x.c0)⟩, ⟨(y_5.l.getD (1 - q) o0).t.seq, (y_5.l.getD (1 - q) o0).t.cells, true⟩⟩ : OX)).flatMap encO), bk b_4 31 [.slice y_5.a y_5.l.length y_5.c, str y_5.jt, iv y_5.js], bk b_3 31 [.slice y_5.a y_5.l.length y_5.c, str y_5.jt, iv y_5.js]]) (fun w hw => hw.rowsEq 2 (A := y_5.l.flatMap rdsO) (B := (y_5.l.set (1 - q) (⟨⟨(y_5.l.getD (1 - q) o0).x.a0, ((y_5.l.getD (1 - q) o0).x.c0)⟩, ⟨(y_5.l.getD (1 - q) o0).t.seq, (y_5.l.getD (1 - q) o0).t.cells, true⟩⟩ : OX)).flatMap rdsO) (F := [bk b_9 60 [iv ((y_5.l.getD (1 - q) o0).t.seq), .slice ((y_5.l.getD (1 - q) o0).x.a0) ((y_5.l.getD (1 - q) o0).t.cells.length) ((y_5.l.getD (1 - q) o0).x.c0), .bool ((y_5.l.getD (1 - q) o0).t.whole)], Res.row (.slice y_5.a y_5.l.length y_5.c) 60 3 y_5.l.length ((y_5.l.set (1 - q) (⟨⟨(y_5.l.getD (1 - q) o0).x.a0, ((y_5.l.getD (1 - q) o0).x.c0)⟩, ⟨(y_5.l.getD (1 - q) o0).t.seq, (y_5.l.getD (1 - q) o0).t.cells, true⟩⟩ : OX)).flatMap encO), bk b_4 31 [.slice y_5.a y_5.l.length y_5.c, str y_5.jt, iv y_5.js], bk b_3 31 [.slice y_5.a y_5.l.length y_5.c, str y_5.jt, iv y_5.js]]) rfl (flatMap_sameO (l := y_5.l) (i := 1 - q) (x := (⟨⟨(y_5.l.getD (1 - q) o0).x.a0, ((y_5.l.getD (1 - q) o0).x.c0)⟩, ⟨(y_5.l.getD (1 - q) o0).t.seq, (y_5.l.getD (1 - q) o0).t.cells, true⟩⟩ : OX)) (by omega) rfl).symm) <| ju (L' := [Res.rows ((y_5.l.set (1 - q) (⟨⟨(y_5.l.getD (1 - q) o0).x.a0, ((y_5.l.getD (1 - q) o0).x.c0)⟩, ⟨(y_5.l.getD (1 - q) o0).t.seq, (y_5.l.getD (1 - q) o0).t.cells, true⟩⟩ : OX)).flatMap rdsO), bk b_9 60 [iv ((y_5.l.getD (1 - q) o0).t.seq), .slice ((y_5.l.getD (1 - q) o0).x.a0) ((y_5.l.getD (1 - q) o0).t.cells.length) ((y_5.l.getD (1 - q) o0).x.c0), .bool ((y_5.l.getD (1 - q) o0).t.whole)], Res.row (.slice y_5.a ((y_5.l.set (1 - q) (⟨⟨(y_5.l.getD (1 - q) o0).x.a0, ((y_5.l.getD (1 - q) o0).x.c0)⟩, ⟨(y_5.l.getD (1 - q) o0).t.seq, (y_5.l.getD (1 - q) o0).t.cells, true⟩⟩ : OX)).length) y_5.c) 60 3 ((y_5.l.set (1 - q) (⟨⟨(y_5.l.getD (1 - q) o0).x.a0, ((y_5.l.getD (1 - q) o0).x.c0)⟩, ⟨(y_5.l.getD (1 - q) o0).t.seq, (y_5.l.getD (1 - q) o0).t.cells, true⟩⟩ : OX)).length) ((y_5.l.set (1 - q) (⟨⟨(y_5.l.getD (1 - q) o0).x.a0, ((y_5.l.getD (1 - q) o0).x.c0)⟩, ⟨(y_5.l.getD (1 - q) o0).t.seq, (y_5.l.getD (1 - q) o0).t.cells, true⟩⟩ : OX)).flatMap encO), bk b_4 31 [.slice y_5.a y_5.l.length y_5.c, str y_5.jt, iv y_5.js], bk b_3 31 [.slice y_5.a y_5.l.length y_5.c, str y_5.jt, iv y_5.js]]) (fun w hw => hw.eqL (by simp only [List.length_set])) <| ju (L' := [Res.rows (rdsOS y_5.a y_5.c (y_5.l.set (1 - q) (⟨⟨(y_5.l.getD (1 - q) o0).x.a0, ((y_5.l.getD (1 - q) o0).x.c0)⟩, ⟨(y_5.l.getD (1 - q) o0).t.seq, (y_5.l.getD (1 - q) o0).t.cells, true⟩⟩ : OX))), bk b_9 60 [iv ((y_5.l.getD (1 - q) o0).t.seq), .slice ((y_5.l.getD (1 - q) o0).x.a0) ((y_5.l.getD (1 - q) o0).t.cells.length) ((y_5.l.getD (1 - q) o0).x.c0), .bool ((y_5.l.getD (1 - q) o0).t.whole)], bk b_4 31 [.slice y_5.a y_5.l.length y_5.c, str y_5.jt, iv y_5.js], bk b_3 31 [.slice y_5.a y_5.l.length y_5.c, str y_5.jt, iv y_5.js]]) (fun w hw => hw.consR (r := ⟨.slice y_5.a ((y_5.l.set (1 - q) (⟨⟨(y_5.l.getD (1 - q) o0).x.a0, ((y_5.l.getD (1 - q) o0).x.c0)⟩, ⟨(y_5.l.getD (1 - q) o0).t.seq, (y_5.l.getD (1 - q) o0).t.cells, true⟩⟩ : OX)).length) y_5.c, 60, 3, (y_5.l.set (1 - q) (⟨⟨(y_5.l.getD (1 - q) o0).x.a0, ((y_5.l.getD (1 - q) o0).x.c0)⟩, ⟨(y_5.l.getD (1 - q) o0).t.seq, (y_5.l.getD (1 - q) o0).t.cells, true⟩⟩ : OX)).length, (y_5.l.set (1 - q) (⟨⟨(y_5.l.getD (1 - q) o0).x.a0, ((y_5.l.getD (1 - q) o0).x.c0)⟩, ⟨(y_5.l.getD (1 - q) o0).t.seq, (y_5.l.getD (1 - q) o0).t.cells, true⟩⟩ : OX)).flatMap encO⟩) (A := (y_5.l.set (1 - q) (⟨⟨(y_5.l.getD (1 - q) o0).x.a0, ((y_5.l.getD (1 - q) o0).x.c0)⟩, ⟨(y_5.l.getD (1 - q) o0).t.seq, (y_5.l.getD (1 - q) o0).t.cells, true⟩⟩ : OX)).flatMap rdsO) [2, 0] rfl) <| kC (.inl rfl) rfl (kA (jO 2 (vs := [.slice y_5.a y_5.l.length y_5.c, str y_5.jt, iv y_5.js]) rfl rfl ke kd rfl rfl) ⟨_, rfl⟩) (jJ (v := .bool true) rfl) (tS 1 _) ?_
        have hoth : othD y_5.dat = (y_5.l.getD (1 - q) o0).t := by rw [othD, hq, Int.toNat_natCast]; exact getD_map'
        have he := foldE_yes (d := y_5.dat) (by rw [hoth]; exact ⟨h_7, by assumption, by omega, by assumption, by assumption⟩)
        rw [hoth] at he
        refine ⟨(⟨y_5.a, y_5.c, y_5.l.set (1 - q) (⟨⟨(y_5.l.getD (1 - q) o0).x.a0, ((y_5.l.getD (1 - q) o0).x.c0)⟩, ⟨(y_5.l.getD (1 - q) o0).t.seq, (y_5.l.getD (1 - q) o0).t.cells, true⟩⟩ : OX), y_5.jt, y_5.js⟩ : DX), ?_, by simp only [← hy_6, he, List.length_set], rfl⟩
        rw [← hy_6, he]
        exact fold_dat rfl rfl rfl hq rfl
      refine jW (cB (cN h_13)) <| jC <| jF <| jK (jO 4 (vs := [.slice y_5.a y_5.l.length y_5.c, str y_5.jt, iv y_5.js]) rfl rfl ke kd rfl rfl) ?_
      refine jH rfl (ja 3 (vs := [.slice y_5.a y_5.l.length y_5.c, str y_5.jt, iv y_5.js]) (cs' := [.slice y_5.a y_5.l.length y_5.c, str y_5.jt, iv y_5.js]) rfl rfl rfl rfl kd rfl rfl (lb rfl) rfl) ?_
      rintro _ _ rfl
      refine jA (jG (v := .bool false) rfl) <| jE <| jB <| jN <| jX <| ju (L' := [Res.rows (rdsOS y_5.a y_5.c y_5.l), bk b_9 60 [iv ((y_5.l.getD (1 - q) o0).t.seq), .slice ((y_5.l.getD (1 - q) o0).x.a0) ((y_5.l.getD (1 - q) o0).t.cells.length) ((y_5.l.getD (1 - q) o0).x.c0), .bool ((y_5.l.getD (1 - q) o0).t.whole)], bk b_4 31 [.slice y_5.a y_5.l.length y_5.c, str y_5.jt, iv y_5.js], bk b_3 31 [.slice y_5.a y_5.l.length y_5.c, str y_5.jt, iv y_5.js]]) (fun w hw => hw.consR (r := ⟨.slice y_5.a y_5.l.length y_5.c, 60, 3, y_5.l.length, y_5.l.flatMap encO⟩) (A := y_5.l.flatMap rdsO) [1, 1] rfl) <| kC (.inl rfl) rfl (kA (jO 2 (vs := [.slice y_5.a y_5.l.length y_5.c, str y_5.jt, iv y_5.js]) rfl rfl ke kd rfl rfl) ⟨_, rfl⟩) (jJ (v := .bool false) rfl) (tS 1 _) ?_
      have hoth : othD y_5.dat = (y_5.l.getD (1 - q) o0).t := by rw [othD, hq, Int.toNat_natCast]; exact getD_map'
      have he := foldE_no (d := y_5.dat) (by rw [hoth]; rintro ⟨h_1, h_2, h_3, h_4, h_5⟩; first | omega | simp_all)
      rw [hy_6] at he
      exact ⟨y_5, (hy_6).trans (congrArg Prod.fst he).symm, by rw [he], rfl⟩
    refine jd 21 (b := true) rfl (by kernel_rfl) (NP.th (NP.th NP.body)) (by kernel_rfl) (by kernel_rfl) rfl rfl rfl (cB (cN h_12)) <| jd 22 (b := true) rfl (by kernel_rfl) (NP.th (NP.th NP.body)) (by kernel_rfl) (by kernel_rfl) rfl rfl rfl (cB (cN h_12)) <| jd 23 (b := true) rfl (by kernel_rfl) (NP.th (NP.th NP.body)) (by kernel_rfl) (by kernel_rfl) rfl rfl rfl (cB (cN h_12)) <| jd 24 (b := true) rfl (by kernel_rfl) (NP.th (NP.th NP.body)) (by kernel_rfl) (by kernel_rfl) rfl rfl rfl (cB (cN h_12)) <| jL 25 rfl (jh (v := .bool true) (cB (cN h_12)) rfl) <| kI (by kernel_rfl) <| jB <| jW (cB rfl) <| jC <| jF ?_
    refine jK (jO 4 (vs := [.slice y_5.a y_5.l.length y_5.c, str y_5.jt, iv y_5.js]) rfl rfl ke kd rfl rfl) ?_
    refine jH rfl (ja 3 (vs := [.slice y_5.a y_5.l.length y_5.c, str y_5.jt, iv y_5.js]) (cs' := [.slice y_5.a y_5.l.length y_5.c, str y_5.jt, iv y_5.js]) rfl rfl rfl rfl kd rfl rfl (lb rfl) rfl) ?_
    rintro _ _ rfl
    refine jA (jG (v := .bool false) rfl) <| jE <| jB <| jN <| jX <| ju (L' := [Res.rows (rdsOS y_5.a y_5.c y_5.l), bk b_9 60 [iv ((y_5.l.getD (1 - q) o0).t.seq), .slice ((y_5.l.getD (1 - q) o0).x.a0) ((y_5.l.getD (1 - q) o0).t.cells.length) ((y_5.l.getD (1 - q) o0).x.c0), .bool ((y_5.l.getD (1 - q) o0).t.whole)], bk b_4 31 [.slice y_5.a y_5.l.length y_5.c, str y_5.jt, iv y_5.js], bk b_3 31 [.slice y_5.a y_5.l.length y_5.c, str y_5.jt, iv y_5.js]]) (fun w hw => hw.consR (r := ⟨.slice y_5.a y_5.l.length y_5.c, 60, 3, y_5.l.length, y_5.l.flatMap encO⟩) (A := y_5.l.flatMap rdsO) [1, 1] rfl) <| kC (.inl rfl) rfl (kA (jO 2 (vs := [.slice y_5.a y_5.l.length y_5.c, str y_5.jt, iv y_5.js]) rfl rfl ke kd rfl rfl) ⟨_, rfl⟩) (jJ (v := .bool false) rfl) (tS 1 _) ?_
    have hoth : othD y_5.dat = (y_5.l.getD (1 - q) o0).t := by rw [othD, hq, Int.toNat_natCast]; exact getD_map'
    have he := foldE_no (d := y_5.dat) (by rw [hoth]; rintro ⟨h_1, h_2, h_3, h_4, h_5⟩; first | omega | simp_all)
    rw [hy_6] at he
    exact ⟨y_5, (hy_6).trans (congrArg Prod.fst he).symm, by rw [he], rfl⟩
  refine jW (cB (cN h_7)) <| jC <| jF <| jK (jO 2 (vs := [.slice y_5.a y_5.l.length y_5.c, str y_5.jt, iv y_5.js]) rfl rfl ke kd rfl rfl) ?_
  refine jH rfl (ja 1 (vs := [.slice y_5.a y_5.l.length y_5.c, str y_5.jt, iv y_5.js]) (cs' := [.slice y_5.a y_5.l.length y_5.c, str y_5.jt, iv y_5.js]) rfl rfl rfl rfl kd rfl rfl (lb rfl) rfl) ?_
  rintro _ _ rfl
  refine jA (jG (v := .bool false) rfl) <| jE <| jB <| jN <| jX <| kC (.inl rfl) rfl (kA (jO 1 (vs := [.slice y_5.a y_5.l.length y_5.c, str y_5.jt, iv y_5.js]) rfl rfl ke kd rfl rfl) ⟨_, rfl⟩) (jJ (v := .bool false) rfl) (tS 1 _) ?_
  have he := foldE_no (d := y_5.dat) (by rintro ⟨h_1, h_2, h_3, h_4, h_5⟩; first | omega | simp_all)
  rw [hy_6] at he
  exact ⟨y_5, (hy_6).trans (congrArg Prod.fst he).symm, by rw [he], rfl⟩

end Go.Proofs.YtjncpgcccgdeiaaGreatDoor

set_option linter.unusedSimpArgs false
set_option linter.unusedVariables false
set_option linter.unnecessarySimpa false
namespace Go.Proofs.YtjncpgcccgdeiaaGreatDoor
open Go Go.RowKit
/- lines -/
def isLine (x : Str) : Prop := ∃ a : Str, (∀ c ∈ a, c ≠ 10) ∧ x = a ++ [10]
theorem lines_flat : ∀ (L : List Str) (r : Str), (∀ x ∈ L, isLine x) → (∀ c ∈ r, c ≠ 10) → linesOf (L.flatten ++ r) = L
  | [], r, _, h => lines_no h
  | x :: L, r, hx, hr => by
    obtain ⟨a, ha, rfl⟩ := hx x (List.mem_cons_self ..)
    have e : ((a ++ [10]) :: L).flatten ++ r = a ++ 10 :: (L.flatten ++ r) := by simp
    have ih := lines_flat L r (fun y hy => hx y (List.mem_cons_of_mem _ hy)) hr
    unfold linesOf at *
    rw [e, linesG_app [] _ ha, ih]
    simp
theorem lines_parts : ∀ (n : Nat) (t : Str), t.length ≤ n → ∃ r, t = (linesOf t).flatten ++ r ∧ (∀ c ∈ r, c ≠ 10) ∧ ∀ x ∈ linesOf t, isLine x
  | 0, t, h => by
    have : t = [] := List.length_eq_zero_iff.1 (by omega)
    subst this
    exact ⟨[], rfl, (fun _ h => by cases h), fun _ h => by cases h⟩
  | n + 1, t, h => by
    rcases ix_cases 10 t with ⟨_, hn⟩ | ⟨i, _, hi, hN, hc⟩
    · exact ⟨t, by rw [lines_no hn]; rfl, hn, by rw [lines_no hn]; exact fun _ h => by cases h⟩
    · obtain ⟨r, h1, h2, h3⟩ := lines_parts n (t.drop (i + 1)) (by rw [List.length_drop]; omega)
      refine ⟨r, ?_, h2, ?_⟩
      · rw [lines_first hi hN hc, List.flatten_cons, List.append_assoc, ← h1, List.take_append_drop]
      · rw [lines_first hi hN hc]
        intro x hx
        rcases List.mem_cons.1 hx with rfl | hx
        · refine ⟨t.take i, front_no (by omega) hN, ?_⟩
          rw [take_at (getD_some (d := 0) hi), hc]
        · exact h3 x hx
theorem sumLen_flat : ∀ L : List Str, sumLen L = L.flatten.length
  | [] => rfl
  | x :: L => by
    have := sumLen_flat L
    simp only [sumLen, List.foldr_cons, List.flatten_cons, List.length_append] at *
    omega
theorem lines_take (t : Str) (k : Nat) : linesOf (t.take (sumLen ((linesOf t).take k))) = (linesOf t).take k ∧ t.take (sumLen ((linesOf t).take k)) = ((linesOf t).take k).flatten := by
  obtain ⟨r, h1, _, h3⟩ := lines_parts t.length t (Nat.le_refl _)
  have e : t.take (sumLen ((linesOf t).take k)) = ((linesOf t).take k).flatten := by
    rw [sumLen_flat]
    have h2 : t = ((linesOf t).take k).flatten ++ (((linesOf t).drop k).flatten ++ r) := by
      rw [← List.append_assoc, ← List.flatten_append, List.take_append_drop]; exact h1
    generalize ((linesOf t).take k).flatten = A at h2 ⊢
    rw [h2, List.take_append_of_le_length (Nat.le_refl _), List.take_length]
  refine ⟨?_, e⟩
  rw [e]
  have := lines_flat ((linesOf t).take k) [] (fun x hx => h3 x (List.mem_of_mem_take hx)) (fun _ h => by cases h)
  rwa [List.append_nil] at this
/-- How many lines the records take: all of them are read, and told below the next. -/
theorem recsG_k (f : Int) : ∀ (L : List Str) (m : Nat), ∃ k, k ≤ L.length ∧ (recsG f m L).2 = sumLen (L.take k) ∧ recsG f m (L.take k) = recsG f m L ∧
    ∀ x ∈ L.take k, (readI x).2.2 = true ∧ (readI x).1 < f + ((m : Nat) : Int) + (((recsG f m L).1.length : Nat) : Int)
  | [], m => ⟨0, Nat.le_refl _, rfl, rfl, fun _ h => by cases h⟩
  | x :: l, m => by
    by_cases h1 : (readI x).2.2 = false
    · have e : recsG f m (x :: l) = ([], 0) := by rw [recsG, if_pos h1]
      exact ⟨0, Nat.zero_le _, by rw [e]; rfl, by rw [e]; rfl, fun _ h => by cases h⟩
    · have ho : (readI x).2.2 = true := by simpa using h1
      by_cases h2 : m = 0 ∧ (readI x).1 < f
      · obtain ⟨k, k1, k2, k3, k4⟩ := recsG_k f l m
        have e : recsG f m (x :: l) = ((recsG f m l).1, x.length + (recsG f m l).2) := by rw [recsG, if_neg h1, if_pos h2]
        have e2 : recsG f m (x :: l.take k) = ((recsG f m (l.take k)).1, x.length + (recsG f m (l.take k)).2) := by rw [recsG, if_neg h1, if_pos h2]
        refine ⟨k + 1, by simp only [List.length_cons]; omega, ?_, ?_, ?_⟩
        · rw [e, List.take_succ_cons, k2]; rfl
        · rw [List.take_succ_cons, e, e2, k3]
        · rw [List.take_succ_cons, e]
          intro y hy
          rcases List.mem_cons.1 hy with rfl | hy
          · exact ⟨ho, by omega⟩
          · exact k4 y hy
      · by_cases h3 : (readI x).1 = f + ((m : Nat) : Int)
        · obtain ⟨k, k1, k2, k3, k4⟩ := recsG_k f l (m + 1)
          have e : recsG f m (x :: l) = ((readI x).2.1 :: (recsG f (m + 1) l).1, x.length + (recsG f (m + 1) l).2) := by rw [recsG, if_neg h1, if_neg h2, if_pos h3]
          have e2 : recsG f m (x :: l.take k) = ((readI x).2.1 :: (recsG f (m + 1) (l.take k)).1, x.length + (recsG f (m + 1) (l.take k)).2) := by rw [recsG, if_neg h1, if_neg h2, if_pos h3]
          refine ⟨k + 1, by simp only [List.length_cons]; omega, ?_, ?_, ?_⟩
          · rw [e, List.take_succ_cons, k2]; rfl
          · rw [List.take_succ_cons, e, e2, k3]
          · rw [List.take_succ_cons, e]
            simp only [List.length_cons]
            intro y hy
            rcases List.mem_cons.1 hy with rfl | hy
            · exact ⟨ho, by omega⟩
            · have := k4 y hy
              exact ⟨this.1, by omega⟩
        · have e : recsG f m (x :: l) = ([], 0) := by rw [recsG, if_neg h1, if_neg h2, if_neg h3]
          exact ⟨0, Nat.zero_le _, by rw [e]; rfl, by rw [e]; rfl, fun _ h => by cases h⟩
theorem recs_clean (t : Str) (f : Int) : recsOf (t.take (recsOf t f).2) f = recsOf t f := by
  unfold recsOf
  by_cases hw : within 1 f 100000 = true
  · rw [if_pos hw, if_pos hw]
    obtain ⟨k, _, k2, k3, _⟩ := recsG_k f (linesOf t) 0
    rw [k2, (lines_take t k).1, k3]
  · rw [if_neg hw, if_neg hw]
/- two slots -/
theorem slots_two {d : DD} (h : diskOk d = true) : ∃ a b, d.slots = [a, b] := by
  have h2 : d.slots.length = 2 := by
    unfold diskOk diskOkF at h
    simp only [Bool.and_eq_true, decide_eq_true_eq] at h
    omega
  match hs : d.slots, h2 with
  | [a, b], _ => exact ⟨a, b, rfl⟩
theorem rall_two (p : Nat → Bool) : rall 2 p = (p 0 && p 1) := by simp [rall, List.range_succ]
theorem diskOk2 {a b : SD} {t : Str} {j : Int} : diskOk ⟨[a, b], t, j⟩ = true ↔ (a.whole = true ∨ b.whole = true) ∧ slotG a = true ∧ slotG b = true ∧ jourOk t j = true := by
  show diskOkF 2 (fun i => ([a, b] : List SD).getD i o0.t) t j = true ↔ _
  unfold diskOkF
  rw [rall_two, rall_two]
  show (decide (((2 : Nat) : Int) = 2) && ((!((!a.whole) && (!b.whole))) && ((slotG a && slotG b) && jourOk t j))) = true ↔ _
  cases a.whole <;> cases b.whole <;> cases slotG a <;> cases slotG b <;> cases jourOk t j <;> simp
theorem bestD2 {a b : SD} {t : Str} {j : Int} : bestD ⟨[a, b], t, j⟩ = if b.whole = true ∧ (¬ a.whole = true ∨ a.seq < b.seq) then 1 else if a.whole = true then 0 else -1 := by
  have e1 : bestF (fun i => ([a, b] : List SD).getD i o0.t) 1 = if a.whole = true then 0 else -1 := by
    simp [bestF]
  unfold bestD
  show bestF (fun i => ([a, b] : List SD).getD i o0.t) (1 + 1) = _
  rw [bestF, e1]
  by_cases ha : a.whole = true
  · simp [ha]
  · simp [ha]
end Go.Proofs.YtjncpgcccgdeiaaGreatDoor

set_option linter.unusedSimpArgs false
set_option linter.unusedVariables false
set_option linter.unnecessarySimpa false
namespace Go.Proofs.YtjncpgcccgdeiaaGreatDoor
open Go Go.RowKit
/- a fall -/
def slotF (x : SD) : SD := if x.whole = true then x else ⟨0, [], false⟩
def fallN (t : Str) (js keep : Int) : Nat := js.toNat + bro keep (t.length - js.toNat)
def DD.fall (d : DD) (keep : Int) : DD := if diskOk d = true then ⟨d.slots.map slotF, d.jt.take (fallN d.jt d.js keep), ((fallN d.jt d.js keep : Nat) : Int)⟩ else d
/- the best of two -/
def bst (a b : SD) : SD := if b.whole = true ∧ (¬ a.whole = true ∨ a.seq < b.seq) then b else a
theorem best2 {a b : SD} {t : Str} {j : Int} (h : a.whole = true ∨ b.whole = true) : (DD.slots ⟨[a, b], t, j⟩).getD (bestD ⟨[a, b], t, j⟩).toNat o0.t = bst a b := by
  rw [bestD2]
  unfold bst
  split
  · rfl
  · rename_i h1
    split
    · rfl
    · rename_i h2
      exfalso
      rcases h with h | h
      · exact h2 h
      · exact h1 ⟨h, .inl h2⟩
theorem most2 {a b : SD} {t : Str} {j : Int} (h : a.whole = true ∨ b.whole = true) : mostOf ⟨[a, b], t, j⟩ = (bst a b).seq := congrArg SD.seq (best2 h)
theorem bst_not_right {a x : SD} (hx : x.whole = false) : bst a x = a := by
  unfold bst
  rw [if_neg]
  rintro ⟨h, _⟩
  rw [hx] at h
  cases h
theorem recov2 {a b : SD} {t : Str} {j : Int} (h : diskOk ⟨[a, b], t, j⟩ = true) : DD.recov ⟨[a, b], t, j⟩ = (applyAll (bst a b).cells (recsOf t ((bst a b).seq + 1)).1, (bst a b).seq + (((recsOf t ((bst a b).seq + 1)).1.length : Nat) : Int)) := by
  have hw := (diskOk2.1 h).1
  rw [DD.recov, if_pos h, recD, best2 hw, most2 hw]
theorem jour_le {t : Str} {j : Int} (h : jourOk t j = true) : t.length ≤ 20000 ∧ 0 ≤ j ∧ j ≤ ((t.length : Nat) : Int) := by
  simp only [jourOk, within, Bool.and_eq_true, decide_eq_true_eq] at h
  exact ⟨by omega, h.2.1, h.2.2⟩
theorem jour_mk {t : Str} {j : Int} (h : t.length ≤ 20000) (h0 : 0 ≤ j) (h1 : j ≤ ((t.length : Nat) : Int)) : jourOk t j = true := by
  simp only [jourOk, within, Bool.and_eq_true, decide_eq_true_eq]
  exact ⟨by omega, h0, h1⟩
/-- A disk that holds what d holds, all of it sure. -/
structure Full (s : List Cell) (n : Int) (e : DD) : Prop where
  ok : diskOk e = true
  rec_ : e.recov = (s, n)
  sure : e.js = ((e.jt.length : Nat) : Int)
theorem disk_ab {d : DD} (h : diskOk d = true) : ∃ a b t j, d = ⟨[a, b], t, j⟩ := by
  obtain ⟨a, b, hs⟩ := slots_two h
  exact ⟨a, b, d.jt, d.js, by cases d; simp only at hs; rw [hs]⟩
theorem clean_full {d : DD} (h : diskOk d = true) : Full d.recov.1 d.recov.2 d.clean := by
  obtain ⟨a, b, t, j, rfl⟩ := disk_ab h
  obtain ⟨hw, ha, hb, hj⟩ := diskOk2.1 h
  have hl := jour_le hj
  have hr := recov2 h
  have hle := recsOf_le t ((bst a b).seq + 1)
  have he : DD.clean ⟨[a, b], t, j⟩ = ⟨[a, b], t.take (recsOf t ((bst a b).seq + 1)).2, (((recsOf t ((bst a b).seq + 1)).2 : Nat) : Int)⟩ := by
    rw [DD.clean, if_pos h, recD, most2 hw]
  have hlen : (t.take (recsOf t ((bst a b).seq + 1)).2).length = (recsOf t ((bst a b).seq + 1)).2 := by rw [List.length_take]; omega
  have hok : diskOk ⟨[a, b], t.take (recsOf t ((bst a b).seq + 1)).2, (((recsOf t ((bst a b).seq + 1)).2 : Nat) : Int)⟩ = true := diskOk2.2 ⟨hw, ha, hb, jour_mk (by omega) (by omega) (by omega)⟩
  rw [he]
  refine ⟨hok, ?_, by show ((_ : Nat) : Int) = _; rw [hlen]⟩
  rw [recov2 hok, recs_clean, ← hr]
/- what a journal holds behind its records -/
/- a checkpoint begun -/
theorem slotF_G {a : SD} (h : slotG a = true) : slotG (slotF a) = true := by
  unfold slotF
  split
  · exact h
  · rfl
theorem slotF_whole {a : SD} : (slotF a).whole = a.whole := by
  unfold slotF
  split
  · rfl
  · rename_i h
    have h' : a.whole = false := by simpa using h
    rw [h']
theorem fallN_le {t : Str} {j : Int} (keep : Int) (h : 0 ≤ j) (h2 : j ≤ ((t.length : Nat) : Int)) : fallN t j keep ≤ t.length := by
  have := bro_le keep (t.length - j.toNat)
  unfold fallN
  omega
theorem fall_ok {d : DD} (h : diskOk d = true) (keep : Int) : diskOk (d.fall keep) = true := by
  obtain ⟨a, b, t, j, rfl⟩ := disk_ab h
  obtain ⟨hw, ha, hb, hj⟩ := diskOk2.1 h
  have hl := jour_le hj
  have hn := fallN_le (t := t) keep hl.2.1 hl.2.2
  rw [DD.fall, if_pos h]
  show diskOk ⟨[slotF a, slotF b], t.take (fallN t j keep), ((fallN t j keep : Nat) : Int)⟩ = true
  refine diskOk2.2 ⟨by rw [slotF_whole, slotF_whole]; exact hw, slotF_G ha, slotF_G hb, jour_mk (by rw [List.length_take]; omega) (by omega) (by rw [List.length_take]; omega)⟩
theorem fall_not {d : DD} (h : diskOk d = false) (keep : Int) : d.fall keep = d := by rw [DD.fall, if_neg (by rw [h]; exact Bool.false_ne_true)]
theorem new_full (s : List Cell) (h : storeOk s = true) : Full s 0 (DD.new s) := by
  have hok : diskOk (DD.new s) = true := diskOk2.2 ⟨.inl rfl, by rw [slotG, h]; rfl, rfl, rfl⟩
  refine ⟨hok, ?_, rfl⟩
  have hb : bst ⟨0, s, true⟩ ⟨0, [], false⟩ = ⟨0, s, true⟩ := bst_not_right rfl
  have := recov2 (a := ⟨0, s, true⟩) (b := ⟨0, [], false⟩) (t := []) (j := 0) hok
  rw [hb] at this
  rw [DD.new, this]
  have hn : recsOf [] (0 + 1) = ([], 0) := by
    unfold recsOf
    split <;> rfl
  simp only
  rw [hn]
  simp [applyAll]
theorem best_new : bestD (DD.new []) = 0 := by
  rw [DD.new, bestD2]
  decide
end Go.Proofs.YtjncpgcccgdeiaaGreatDoor

set_option linter.unusedSimpArgs false
set_option linter.unusedVariables false
set_option linter.unnecessarySimpa false
namespace Go.Proofs.YtjncpgcccgdeiaaGreatDoor
open Go Go.RowKit
theorem cellUnder : Tryz.prog.underlying 48 = some (.struct (Tryz.prog.fieldsOf 48)) := by kernel_rfl
section
variable {n : Nat} {e : Env} {d : Option Tmp} {ty : TypeId} {pos : String} {aft : Array Edge} {gd : Option (Nat × Bool)}
theorem PO.neqCell {x y : Operand} {a b : Cell} {u : TypeId} (hx : rd n e x = .agg #[str a.1, str a.2]) (hy : rd n e y = .agg #[str b.1, str b.2]) : PO Tryz.prog n e ⟨d, .binOp .neq 48 x y u, ty, pos, aft, gd⟩ (.bool (!decide (a = b))) := fun w => by
  have he : (Op.equalIn 10000 48 (.agg #[str a.1, str a.2]) (.agg #[str b.1, str b.2])).run Tryz.prog w = .ok (decide (a = b)) w := by
    rw [run_equalIn_struct w 9999 48 _ _ cellUnder Tryz.stoodInHeld48]
    rw [show (Tryz.prog.fieldsOf 48).toList = [⟨ "Key", 9, 0, false, "", "", 0⟩, ⟨ "Val", 9, 1, false, "", "", 16⟩] by kernel_rfl]
    have e1 : (Op.equalIn 9999 9 (str a.1) (str b.1)).run Tryz.prog w = .ok (decide (a.1 = b.1)) w := by
      simp only [str]
      rw [run_equalIn_string w 9998 9 _ _ kg]
      simp [beq_dec]
    have e2 : (Op.equalIn 9999 9 (str a.2) (str b.2)).run Tryz.prog w = .ok (decide (a.2 = b.2)) w := by
      simp only [str]
      rw [run_equalIn_string w 9998 9 _ _ kg]
      simp [beq_dec]
    have p1 : ∀ c : Cell, (part 9 #[str c.1, str c.2] 0).run Tryz.prog w = .ok (str c.1) w := fun c => by simp [part, str]
    have p2 : ∀ c : Cell, (part 9 #[str c.1, str c.2] 1).run Tryz.prog w = .ok (str c.2) w := fun c => by simp [part, str]
    simp only [Op.eqFields, Sem.run_bind, p1, p2, e1, e2, Result.andThen_ok, ne_eq, Sem.run_ite, Sem.run_pure]
    obtain ⟨a1, a2⟩ := a
    obtain ⟨b1, b2⟩ := b
    by_cases h1 : a1 = b1 <;> by_cases h2 : a2 = b2 <;> simp [h1, h2, Prod.mk.injEq]

  simp only [execOp, hx, hy, Sem.run_bind, run_eqGuard_agg w .neq 48 x y _ _ Tryz.eqGuardType48, Result.andThen_ok, run_neq_struct, he, Sem.run_pure]
end
attribute [local irreducible] JL JC JQ JO LO PO JA JX Ct

theorem C_sameCells (a b : Option Addr) (c c' : Nat) (s t : List Cell) (hn : s.length ≤ 9223372036854775807) :
    Ct Tryz.prog 34 [.slice a s.length c, .slice b t.length c'] [] (fun w => Sees w (.slice a s.length c) 2 s.length (s.flatMap encC) ∧ Sees w (.slice b t.length c') 2 t.length (t.flatMap encC)) (fun r A' => r = .bool (decide (s = t)) ∧ A' = []) := by
  refine Ct.intro Tryz.func34 rfl Tryz.ntmps34 (lb rfl) fun w0 hpre => ?_
  have hs_a : Sees w0 _ _ _ _ := hpre.1
  have hs_b : Sees w0 _ _ _ _ := hpre.2
  refine jC <| jF <| jA (jG (v := .bool false) rfl) <| jE <| jB <| jC <| jC <| jF <| jA (jD (v := .slice a s.length c) rfl) <| jA (jr kf rfl) ?_
  refine jA (jD (v := .slice b t.length c') rfl) <| jA (jr kf rfl) <| jA (kS rfl rfl) <| jE <| jB ?_
  by_cases h_1 : ((s.length : Nat) : Int) = ((t.length : Nat) : Int)
  · have hlen := h_1
    refine jR (cB (cN (dT h_1))) <| jT <| jB <| jC <| jC <| jF <| jA (jG (v := iv 0) rfl) <| jE <| jB <| jf ?_
    refine kD (fun k_ e_ L_ => ∃ j : Nat, (j ≤ s.length) ∧ (s.take j = t.take j) ∧ (s.length = t.length) ∧ e_ 0 = .slice a s.length c ∧ e_ 1 = .slice b t.length c' ∧ e_ 5 = nv j ∧ L_ = [] ∧ k_ = s.length - j) _ ⟨0, by omega, rfl, by omega, rfl, rfl, rfl, rfl, rfl⟩ ?_
    rintro _ e_2 _ ⟨j, hj, hE, hln, he_3, he_4, he_5, rfl, rfl⟩
    refine jC <| jC <| jF <| jA (jD (v := nv j) he_5) <| jA (jD (v := .slice a s.length c) he_3) <| jA (jr kf rfl) <| jA (jl rfl rfl) <| jE <| jB ?_
    by_cases h_6 : ((j : Nat) : Int) < ((s.length : Nat) : Int)
    · have hlt : j < s.length := by omega
      refine jW (cB (dT h_6)) <| jT <| jB <| jC <| jf <| jC <| kJ [] 8 mixed (by simp) <| jL 0 rfl (jD (v := .slice a s.length c) he_3) <| jL 1 rfl (jD (v := nv j) he_5) ?_
      obtain ⟨hr_7, hr_7b, -⟩ := sees_some hs_a (by omega)
      refine jL 2 rfl (jk (i := j) kf kh hr_7 hr_7b rfl rfl (by omega)) <| jw 3 rfl (kX (vs := [str ((s.getD j c0).1), str ((s.getD j c0).2)]) hs_a nM rfl gG kh (atC (by omega)) rfl (by decide)) <| jL 4 rfl (jD (v := .slice b t.length c') he_4) <| jL 5 rfl (jD (v := nv j) he_5) ?_
      obtain ⟨hr_8, hr_8b, -⟩ := sees_some hs_b (by omega)
      refine jL 6 rfl (jk (i := j) kf kh hr_8 hr_8b rfl rfl (by omega)) <| jw 7 rfl (kX (vs := [str ((t.getD j c0).1), str ((t.getD j c0).2)]) hs_b nM rfl gG kh (atC (by omega)) rfl (by decide)) <| jL 8 rfl (PO.neqCell (a := s.getD j c0) (b := t.getD j c0) rfl rfl) <| kI (by kernel_rfl) <| jB ?_
      by_cases h_9 : s.getD j c0 = t.getD j c0
      · have heq := h_9
        refine jR (cB (cN (dT h_9))) <| jT <| jm <| jB <| jF <| jA (jD (v := nv j) he_5) <| jA (jc (c := ((j + 1 : Nat) : Int)) rfl rfl (wr (by omega))) <| jA (jG (v := iv ((j + 1 : Nat) : Int)) rfl) <| jE ?_
        refine jq (s.length - (j + 1)) (by omega) ⟨j + 1, by omega, take_succ_eq c0 hE hlt hln heq, hln, he_3, he_4, rfl, rfl, rfl⟩
      have hne := h_9
      refine jW (cB (cN (dF h_9))) <| jC <| jF <| jA (jG (v := .bool false) rfl) <| jE <| jB <| jN <| jv <| jX <| jX ?_
      refine jv <| jX <| jV (.inl rfl) rfl (jJ (v := .bool false) rfl) (List.nil_sublist _) ?_
      refine ⟨?_, rfl⟩
      rw [dF (fun h => hne (by rw [h]))]
    refine jR (cB (dF h_6)) <| jx <| jb <| jb <| jy <| jB <| jC <| jF <| jA (jG (v := .bool true) rfl) <| jE ?_
    refine jB <| jN <| jV (.inl rfl) rfl (jJ (v := .bool true) rfl) (List.nil_sublist _) ?_
    refine ⟨?_, rfl⟩
    rw [dT (take_all_eq hE (by omega) (by omega))]
  have hlen := h_1
  refine jW (cB (cN (dF h_1))) <| jC <| jF <| jA (jG (v := .bool false) rfl) <| jE <| jB <| jN <| jX <| jV (.inl rfl) rfl (jJ (v := .bool false) rfl) (List.nil_sublist _) ?_
  refine ⟨?_, rfl⟩
  rw [dF (fun h => by rw [h] at hlen; omega)]

end Go.Proofs.YtjncpgcccgdeiaaGreatDoor

set_option linter.unusedSimpArgs false
set_option linter.unusedVariables false
set_option linter.unnecessarySimpa false
namespace Go.Proofs.YtjncpgcccgdeiaaGreatDoor
open Go Go.RowKit
def addT (t : Str) (js : Int) (u : Str) : Str × Bool := if jourOk t js = true ∧ t.length + u.length ≤ 20000 then (t ++ u, true) else (t, false)
def flushT (t : Str) (js : Int) : Int := if jourOk t js = true then ((t.length : Nat) : Int) else js
def fallT (t : Str) (js keep : Int) : Str × Int := if jourOk t js = true then (t.take (fallN t js keep), ((fallN t js keep : Nat) : Int)) else (t, js)
theorem addT_yes {t : Str} {js : Int} {u : Str} (h : jourOk t js = true) (h2 : t.length + u.length ≤ 20000) : addT t js u = (t ++ u, true) := if_pos ⟨h, h2⟩
theorem addT_no {t : Str} {js : Int} {u : Str} (h : ¬ (jourOk t js = true ∧ t.length + u.length ≤ 20000)) : addT t js u = (t, false) := if_neg h
theorem addT_len {t : Str} {js : Int} {u q : Str} {b : Bool} (h : addT t js u = (q, b)) {n : Nat} (ht : t.length ≤ n) (hn : 20000 ≤ n) : q.length ≤ n := by
  unfold addT at h
  split at h
  · rename_i hc
    simp only [Prod.mk.injEq] at h
    rw [← h.1, List.length_append]
    omega
  · simp only [Prod.mk.injEq] at h
    rw [← h.1]
    exact ht
theorem flushT_yes {t : Str} {js : Int} (h : jourOk t js = true) : flushT t js = ((t.length : Nat) : Int) := if_pos h
theorem flushT_no {t : Str} {js : Int} (h : jourOk t js = false) : flushT t js = js := if_neg (by rw [h]; exact Bool.false_ne_true)
theorem fallT_yes {t : Str} {js keep : Int} (h : jourOk t js = true) : fallT t js keep = (t.take (fallN t js keep), ((fallN t js keep : Nat) : Int)) := if_pos h
theorem fallT_no {t : Str} {js keep : Int} (h : jourOk t js = false) : fallT t js keep = (t, js) := if_neg (by rw [h]; exact Bool.false_ne_true)
section
variable {q l : List OX} {i : Nat} {x : OX}
theorem fallq_at (hi : i < l.length) (hn : q.length = l.length) (hq : q.map OX.t = ((l.map OX.t).take i).map slotF ++ (l.map OX.t).drop i) :
    q.map OX.t = ((l.map OX.t).take i).map slotF ++ (q.getD i o0).t :: (l.map OX.t).drop (i + 1) ∧ ((l.map OX.t).take (i + 1)).map slotF = ((l.map OX.t).take i).map slotF ++ [slotF (q.getD i o0).t] := by
  have hL : i < (l.map OX.t).length := by rw [List.length_map]; exact hi
  have hd := drop_at (getD_some (d := o0.t) hL)
  have hA : (((l.map OX.t).take i).map slotF).length = i := by rw [List.length_map, List.length_take]; omega
  have hv : (q.getD i o0).t = (l.map OX.t).getD i o0.t := by
    have h1 : (q.map OX.t).getD i o0.t = (q.getD i o0).t := getD_map'
    rw [← h1, hq, hd, List.getD_eq_getElem?_getD, List.getElem?_append_right (by omega), hA, Nat.sub_self]
    rfl
  rw [hv]
  refine ⟨by rw [hq, hd], ?_⟩
  rw [take_at (getD_some (d := o0.t) hL), List.map_append]
  rfl
theorem fallq_keep (hi : i < l.length) (hn : q.length = l.length) (hq : q.map OX.t = ((l.map OX.t).take i).map slotF ++ (l.map OX.t).drop i) (hw : (q.getD i o0).t.whole = true) :
    q.map OX.t = ((l.map OX.t).take (i + 1)).map slotF ++ (l.map OX.t).drop (i + 1) := by
  obtain ⟨h1, h2⟩ := fallq_at hi hn hq
  rw [h2, h1, List.append_assoc]
  congr 1
  rw [slotF, if_pos hw]
  rfl
theorem fallq_set (hi : i < l.length) (hn : q.length = l.length) (hq : q.map OX.t = ((l.map OX.t).take i).map slotF ++ (l.map OX.t).drop i) (hw : (q.getD i o0).t.whole = false) (hx : x.t = ⟨0, [], false⟩) :
    (q.set i x).map OX.t = ((l.map OX.t).take (i + 1)).map slotF ++ (l.map OX.t).drop (i + 1) := by
  obtain ⟨h1, h2⟩ := fallq_at hi hn hq
  have hA : (((l.map OX.t).take i).map slotF).length = i := by rw [List.length_map, List.length_take, List.length_map]; omega
  rw [h2, List.map_set, h1, List.append_assoc, List.set_append_right _ _ (by omega), hA, Nat.sub_self, hx]
  congr 1
  rw [slotF, if_neg (by rw [hw]; exact Bool.false_ne_true)]
  rfl
end
theorem fall_dat {y d : DX} {q : List OX} {keep : Int} {i : Nat} (hy : y.dat = d.dat) (hok : diskOk d.dat = true) (hi : y.l.length ≤ i) (hq : q.map OX.t = ((y.l.map OX.t).take i).map slotF ++ (y.l.map OX.t).drop i) :
    (⟨y.a, y.c, q, (fallT d.jt d.js keep).1, (fallT d.jt d.js keep).2⟩ : DX).dat = d.dat.fall keep := by
  have h : fallT d.jt d.js keep = (d.jt.take (fallN d.jt d.js keep), ((fallN d.jt d.js keep : Nat) : Int)) := fallT_yes (diskOk_jour hok)
  rw [DD.fall, if_pos hok, h]
  have h1 : y.l.map OX.t = d.l.map OX.t := congrArg DD.slots hy
  rw [List.take_of_length_le (by rw [List.length_map]; omega), List.drop_of_length_le (by rw [List.length_map]; omega), List.append_nil, h1] at hq
  simp only [DX.dat, hq]
theorem fall_okz {d : DD} (h : d.okz) (keep : Int) : (d.fall keep).okz := by
  unfold DD.fall
  split
  · refine ⟨by rw [List.length_map]; exact h.k0, fun s hs => ?_, ?_⟩
    · obtain ⟨x, hx, rfl⟩ := List.mem_map.1 hs
      unfold slotF
      split
      · exact h.k1 x hx
      · exact ⟨⟨Nat.zero_le _, fun j hj => absurd hj (Nat.not_lt_zero j)⟩⟩
    · have := h.k2
      simp only [List.length_take]
      omega
  · exact h
theorem fall_lim {d : DD} {n : Nat} (h : d.lim n) (keep : Int) : (d.fall keep).lim n := by
  unfold DD.fall
  split
  · refine ⟨by rw [List.length_map]; exact h.l0, fun s hs => ?_⟩
    obtain ⟨x, hx, rfl⟩ := List.mem_map.1 hs
    unfold slotF
    split
    · exact h.l1 x hx
    · exact ⟨Nat.zero_le _⟩
  · exact h
theorem jourUnder : Tryz.prog.underlying 29 = some (.struct (Tryz.prog.fieldsOf 29)) := by kernel_rfl
theorem PO.eqlJ {n : Nat} {e : Env} {d : Option Tmp} {ty : TypeId} {pos : String} {aft : Array Edge} {gd : Option (Nat × Bool)} {x y : Operand} {a b : Str} {j k : Int} {u : TypeId} (hx : rd n e x = .agg #[str a, .int .i64 j]) (hy : rd n e y = .agg #[str b, .int .i64 k]) : PO Tryz.prog n e ⟨d, .binOp .eql 29 x y u, ty, pos, aft, gd⟩ (.bool (decide (a = b ∧ j = k))) := fun w => by
  have he : (Op.equalIn 10000 29 (.agg #[str a, .int .i64 j]) (.agg #[str b, .int .i64 k])).run Tryz.prog w = .ok (decide (a = b ∧ j = k)) w := by
    rw [run_equalIn_struct w 9999 29 _ _ jourUnder Tryz.stoodInHeld29]
    rw [show (Tryz.prog.fieldsOf 29).toList = [⟨ "Text", 9, 0, false, "", "", 0⟩, ⟨ "Sure", 3, 1, false, "", "", 16⟩] by kernel_rfl]
    have e1 : (Op.equalIn 9999 9 (str a) (str b)).run Tryz.prog w = .ok (decide (a = b)) w := by
      simp only [str]
      rw [run_equalIn_string w 9998 9 _ _ kg]
      simp [beq_dec]
    have e2 : (Op.equalIn 9999 3 (.int .i64 j) (.int .i64 k)).run Tryz.prog w = .ok (decide (j = k)) w := by
      rw [run_equalIn_int w 9998 3 _ _ _ _ gC]
      simp [beq_dec]
    have p1 : ∀ (c : Str) (i : Int), (part 9 #[str c, .int .i64 i] 0).run Tryz.prog w = .ok (str c) w := fun c i => by simp [part, str]
    have p2 : ∀ (c : Str) (i : Int), (part 3 #[str c, .int .i64 i] 1).run Tryz.prog w = .ok (.int .i64 i) w := fun c i => by simp [part]
    simp only [Op.eqFields, Sem.run_bind, p1, p2, e1, e2, Result.andThen_ok, ne_eq, Sem.run_ite, Sem.run_pure]
    by_cases h1 : a = b <;> by_cases h2 : j = k <;> simp [h1, h2]
  simp only [execOp, hx, hy, Sem.run_bind, run_eqGuard_agg w .eql 29 x y _ _ Tryz.eqGuardType29, Result.andThen_ok, run_eql_struct, he, Sem.run_pure]
attribute [local irreducible] JL JC JQ JO LO PO JA JX Ct

set_option maxRecDepth 4000 in
set_option maxHeartbeats 1000000 in
theorem Y_implDiskNew (a : Option Addr) (c : Nat) (s : List Cell) (hs : s.length ≤ 1000000000) :
    Ct Tryz.prog 26 [.slice a s.length c] [] (fun w => Sees w (.slice a s.length c) 2 s.length (s.flatMap encC)) (fun v A' => ∃ d : DX, d.dat = DD.new s ∧ v = .agg #[.slice d.a d.l.length d.c, str d.jt, .int .i64 d.js] ∧ A' = [.rows (rdsD d)]) := by
  refine Ct.intro Tryz.func26 rfl Tryz.ntmps26 (lb rfl) fun w0 hpre => ?_
  have hs_a : Sees w0 _ _ _ _ := hpre
  refine jC <| jF ?_
  refine jH rfl (jo (z := .agg #[.slice none 0 0, str [], iv 0]) (cs := [.slice none 0 0, str [], iv 0]) ko rfl) ?_
  rintro _ _ ⟨b_1, rfl, rfl⟩
  refine jE <| jB <| jC <| jF <| jA (jD (v := .slice a s.length c) rfl) ?_
  refine jH rfl (jI [] Tryz.call74 rfl (C_cloneC a c s (by omega)) rfl (fun w hw => hw.seeOut_ hs_a nM)) ?_
  rintro _ _ ⟨_, ⟨a_2, c_3, rfl, rfl⟩, rfl⟩
  refine jA (kW (ps := [(1, .slice a_2 s.length c_3), (2, .bool true)]) (cs := [iv 0, .slice a_2 s.length c_3, .bool true]) rfl (by kernel_rfl)) <| jA (kW (ps := []) (cs := [iv 0, .slice none 0 0, .bool false]) rfl (by kernel_rfl)) ?_
  refine jH rfl (kH (ps := [(0, .agg #[iv 0, .slice a_2 s.length c_3, .bool true]), (1, .agg #[iv 0, .slice none 0 0, .bool false])]) (cur := #[iv 0, .slice a_2 s.length c_3, .bool true, iv 0, .slice none 0 0, .bool false]) km kj gD rfl (by kernel_rfl) (by decide) (by decide)) ?_
  rintro _ _ ⟨a_4, rfl, rfl⟩
  refine jA (kW (ps := [(0, .slice a_4 2 2)]) (cs := [.slice a_4 2 2, str [], iv 0]) rfl (by kernel_rfl)) ?_
  refine jH rfl (ja 2 (vs := [.slice a_4 2 2, str [], iv 0]) (cs' := [.slice a_4 2 2, str [], iv 0]) rfl rfl rfl rfl kd rfl rfl (lb rfl) rfl) ?_
  rintro _ _ rfl
  refine jE <| jB <| jN <| JQ.nilRow 48 2 <| ju (L' := [Res.rows (([(⟨⟨a_2, c_3⟩, ⟨0, s, true⟩⟩ : OX), (⟨⟨none, 0⟩, ⟨0, [], false⟩⟩ : OX)] : List OX).flatMap rdsO), Res.row (.slice a_4 2 2) 60 3 2 (([(⟨⟨a_2, c_3⟩, ⟨0, s, true⟩⟩ : OX), (⟨⟨none, 0⟩, ⟨0, [], false⟩⟩ : OX)] : List OX).flatMap encO), bk b_1 31 [.slice a_4 2 2, str [], iv 0]]) (fun w hw => hw.closeR (A := ([⟨.slice a_2 s.length c_3, 48, 2, s.length, s.flatMap encC⟩, ⟨.slice none 0 0, 48, 2, 0, ([] : List Cell).flatMap encC⟩] : List RD)) [2, 0] rfl) <| ju (L' := [Res.rows (rdsOS a_4 2 ([(⟨⟨a_2, c_3⟩, ⟨0, s, true⟩⟩ : OX), (⟨⟨none, 0⟩, ⟨0, [], false⟩⟩ : OX)] : List OX)), bk b_1 31 [.slice a_4 2 2, str [], iv 0]]) (fun w hw => hw.consR (r := ⟨.slice a_4 2 2, 60, 3, 2, ([(⟨⟨a_2, c_3⟩, ⟨0, s, true⟩⟩ : OX), (⟨⟨none, 0⟩, ⟨0, [], false⟩⟩ : OX)] : List OX).flatMap encO⟩) (A := ([(⟨⟨a_2, c_3⟩, ⟨0, s, true⟩⟩ : OX), (⟨⟨none, 0⟩, ⟨0, [], false⟩⟩ : OX)] : List OX).flatMap rdsO) [1, 0] rfl) <| jV (.inl rfl) rfl (kA (jO 1 (vs := [.slice a_4 2 2, str [], iv 0]) rfl rfl ke kd rfl rfl) ⟨_, rfl⟩) (tS 1 _) ?_
  exact ⟨(⟨a_4, 2, ([(⟨⟨a_2, c_3⟩, ⟨0, s, true⟩⟩ : OX), (⟨⟨none, 0⟩, ⟨0, [], false⟩⟩ : OX)] : List OX), [], 0⟩ : DX), rfl, rfl, rfl⟩

set_option maxRecDepth 4000 in
set_option maxHeartbeats 1000000 in
theorem Y_specDiskNew (a : Option Addr) (c : Nat) (s : List Cell) (hs : s.length ≤ 1000000000) :
    Ct Tryz.prog 40 [.slice a s.length c] [] (fun w => Sees w (.slice a s.length c) 2 s.length (s.flatMap encC)) (fun v A' => ∃ d : DX, d.dat = DD.new s ∧ v = .agg #[.slice d.a d.l.length d.c, str d.jt, .int .i64 d.js] ∧ A' = [.rows (rdsD d)]) := by
  refine Ct.intro Tryz.func40 rfl Tryz.ntmps40 (lb rfl) fun w0 hpre => ?_
  have hs_a : Sees w0 _ _ _ _ := hpre
  refine jC <| jF ?_
  refine jH rfl (jo (z := .agg #[.slice none 0 0, str [], iv 0]) (cs := [.slice none 0 0, str [], iv 0]) ko rfl) ?_
  rintro _ _ ⟨b_1, rfl, rfl⟩
  refine jE <| jB <| jC <| jF ?_
  refine jH rfl (kH (ps := []) (cur := #[]) kf kh kw rfl (by kernel_rfl) (by decide) (by decide)) ?_
  rintro _ _ ⟨a_2, rfl, rfl⟩
  refine jA (jD (v := .slice a s.length c) rfl) ?_
  refine jH rfl (kU 0 (q := s.length) (news := s.flatMap encC) (n' := s.length) (cs' := s.flatMap encC) rfl kf kf ky rfl (by' := 32) rfl rfl rfl rfl rfl (fun w hw => Src.sees (hw.seeOut_ hs_a nM) (oneC _)) (by (try simp only [LE]); omega) (by (try simp only [LE]); omega) (by (try simp only [List.length_take, List.length_drop]); first | rfl | omega) rfl) ?_
  rintro _ _ ⟨a_3, c_4, rfl, rfl⟩
  refine jA (kW (ps := [(1, .slice a_3 s.length c_4), (2, .bool true)]) (cs := [iv 0, .slice a_3 s.length c_4, .bool true]) rfl (by kernel_rfl)) <| jA (kW (ps := []) (cs := [iv 0, .slice none 0 0, .bool false]) rfl (by kernel_rfl)) ?_
  refine jH rfl (kH (ps := [(0, .agg #[iv 0, .slice a_3 s.length c_4, .bool true]), (1, .agg #[iv 0, .slice none 0 0, .bool false])]) (cur := #[iv 0, .slice a_3 s.length c_4, .bool true, iv 0, .slice none 0 0, .bool false]) km kj gD rfl (by kernel_rfl) (by decide) (by decide)) ?_
  rintro _ _ ⟨a_5, rfl, rfl⟩
  refine jA (kW (ps := [(0, .slice a_5 2 2)]) (cs := [.slice a_5 2 2, str [], iv 0]) rfl (by kernel_rfl)) ?_
  refine jH rfl (ja 2 (vs := [.slice a_5 2 2, str [], iv 0]) (cs' := [.slice a_5 2 2, str [], iv 0]) rfl rfl rfl rfl kd rfl rfl (lb rfl) rfl) ?_
  rintro _ _ rfl
  refine jE <| jB <| jN <| JQ.nilRow 48 2 <| ju (L' := [Res.rows (([(⟨⟨a_3, c_4⟩, ⟨0, s, true⟩⟩ : OX), (⟨⟨none, 0⟩, ⟨0, [], false⟩⟩ : OX)] : List OX).flatMap rdsO), Res.row (.slice a_5 2 2) 60 3 2 (([(⟨⟨a_3, c_4⟩, ⟨0, s, true⟩⟩ : OX), (⟨⟨none, 0⟩, ⟨0, [], false⟩⟩ : OX)] : List OX).flatMap encO), bk b_1 31 [.slice a_5 2 2, str [], iv 0]]) (fun w hw => hw.closeR (A := ([⟨.slice a_3 s.length c_4, 48, 2, s.length, s.flatMap encC⟩, ⟨.slice none 0 0, 48, 2, 0, ([] : List Cell).flatMap encC⟩] : List RD)) [2, 0] rfl) <| ju (L' := [Res.rows (rdsOS a_5 2 ([(⟨⟨a_3, c_4⟩, ⟨0, s, true⟩⟩ : OX), (⟨⟨none, 0⟩, ⟨0, [], false⟩⟩ : OX)] : List OX)), bk b_1 31 [.slice a_5 2 2, str [], iv 0]]) (fun w hw => hw.consR (r := ⟨.slice a_5 2 2, 60, 3, 2, ([(⟨⟨a_3, c_4⟩, ⟨0, s, true⟩⟩ : OX), (⟨⟨none, 0⟩, ⟨0, [], false⟩⟩ : OX)] : List OX).flatMap encO⟩) (A := ([(⟨⟨a_3, c_4⟩, ⟨0, s, true⟩⟩ : OX), (⟨⟨none, 0⟩, ⟨0, [], false⟩⟩ : OX)] : List OX).flatMap rdsO) [1, 0] rfl) <| jV (.inl rfl) rfl (kA (jO 1 (vs := [.slice a_5 2 2, str [], iv 0]) rfl rfl ke kd rfl rfl) ⟨_, rfl⟩) (tS 1 _) ?_
  exact ⟨(⟨a_5, 2, ([(⟨⟨a_3, c_4⟩, ⟨0, s, true⟩⟩ : OX), (⟨⟨none, 0⟩, ⟨0, [], false⟩⟩ : OX)] : List OX), [], 0⟩ : DX), rfl, rfl, rfl⟩

theorem Y_iFallJ (t : Str) (js keep : Int) (hl : t.length ≤ 1000000000) :
    Ct Tryz.prog 84 [.agg #[str t, .int .i64 js], .int .i64 keep] [] (fun _ => True) (fun v A' => ∃ q k, fallT t js keep = (q, k) ∧ v = .agg #[str q, .int .i64 k] ∧ A' = []) := by
  refine Ct.intro Tryz.func84 rfl Tryz.ntmps84 (lb rfl) fun w0 hpre => ?_
  refine jC <| jF ?_
  refine jH rfl (kG (cs := [str t, iv js]) rfl rfl) ?_
  rintro _ _ ⟨b_1, rfl, rfl⟩
  refine jH rfl (jo (z := .agg #[str [], iv 0]) (cs := [str [], iv 0]) gN rfl) ?_
  rintro _ _ ⟨b_2, rfl, rfl⟩
  refine jE <| jB <| jC <| jC <| jF <| jK (jO 1 (vs := [str t, iv js]) rfl rfl kp kl rfl rfl) ?_
  refine jH rfl (jI [] Tryz.call75 rfl (Y_implJournalOk t js (by omega)) rfl (fun _ _ => trivial)) ?_
  rintro _ _ ⟨_, ⟨rfl, rfl⟩, rfl⟩
  refine jA (jp rfl) <| jE <| jB ?_
  rcases Bool.eq_false_or_eq_true (jourOk t js) with h_3 | h_3
  · have hjr := jour_le h_3
    obtain ⟨jn, rfl⟩ : ∃ jn : Nat, js = ((jn : Nat) : Int) := ⟨js.toNat, by omega⟩
    have hbl := bro_le keep (t.length - jn)
    refine jR (cB (cN h_3)) <| jT <| jB <| jC <| kJ [bk b_2 29 [str [], iv 0], bk b_1 29 [str t, nv jn]] 11 mixed (by simp) <| jL 0 rfl (jQ fo29_1 rfl) <| jw 1 rfl (jZ 1 (v := nv jn) rfl rfl kq rfl) <| jL 2 rfl (jD (v := iv keep) rfl) <| jL 3 rfl (jQ fo29_0 rfl) <| jw 4 rfl (jZ 1 (v := str t) rfl rfl ki rfl) ?_
    refine jL 5 rfl (kF kg rfl) <| jL 6 rfl (jQ fo29_1 rfl) <| jw 7 rfl (jZ 1 (v := nv jn) rfl rfl kq rfl) <| jL 8 rfl (kZ (c := ((t.length - jn : Nat) : Int)) rfl rfl (wr (by omega))) <| jj (i := 9) ?_
    refine jz rfl rfl (jI [] Tryz.call123 rfl (Y_implbro keep (t.length - jn)) rfl (fun _ _ => trivial)) ?_
    rintro _ _ ⟨_, ⟨rfl, rfl⟩, rfl⟩
    have hbro3 := bro_le keep (t.length - jn)
    refine ⟨by simp, ?_⟩
    refine jL 10 rfl (jc (c := ((jn + (bro keep (t.length - jn)) : Nat) : Int)) rfl rfl (wr (by omega))) <| jL 11 rfl (jG (v := iv ((jn + (bro keep (t.length - jn)) : Nat) : Int)) rfl) <| kI (by kernel_rfl) <| jB <| jC <| jF <| jA (jQ fo29_0 rfl) <| jK (jZ 1 (v := str t) rfl rfl ki rfl) <| jA (jD (v := iv ((jn + (bro keep (t.length - jn)) : Nat) : Int)) rfl) <| jA (PO.sliceSh (j := (jn + (bro keep (t.length - jn)))) kg rfl rfl (by omega)) ?_
    refine jA (jD (v := iv ((jn + (bro keep (t.length - jn)) : Nat) : Int)) rfl) <| jA (kW (ps := [(0, str (t.take (jn + (bro keep (t.length - jn))))), (1, iv ((jn + (bro keep (t.length - jn)) : Nat) : Int))]) (cs := [str (t.take (jn + (bro keep (t.length - jn)))), iv ((jn + (bro keep (t.length - jn)) : Nat) : Int)]) rfl (by kernel_rfl)) ?_
    refine jH rfl (ja 0 (vs := [str (t.take (jn + (bro keep (t.length - jn)))), iv ((jn + (bro keep (t.length - jn)) : Nat) : Int)]) (cs' := [str (t.take (jn + (bro keep (t.length - jn)))), iv ((jn + (bro keep (t.length - jn)) : Nat) : Int)]) rfl rfl rfl rfl kl rfl rfl (lb rfl) rfl) ?_
    rintro _ _ rfl
    refine jE <| jB <| jN <| jV (.inl rfl) rfl (kA (jO 0 (vs := [str (t.take (jn + (bro keep (t.length - jn)))), iv ((jn + (bro keep (t.length - jn)) : Nat) : Int)]) rfl rfl kp kl rfl rfl) ⟨_, rfl⟩) (List.nil_sublist _) ?_
    exact ⟨_, _, fallT_yes h_3, rfl, rfl⟩
  refine jW (cB (cN h_3)) <| jC <| jF <| jK (jO 1 (vs := [str t, iv js]) rfl rfl kp kl rfl rfl) ?_
  refine jH rfl (ja 0 (vs := [str t, iv js]) (cs' := [str t, iv js]) rfl rfl rfl rfl kl rfl rfl (lb rfl) rfl) ?_
  rintro _ _ rfl
  refine jE <| jB <| jN <| jX <| jV (.inl rfl) rfl (kA (jO 0 (vs := [str t, iv js]) rfl rfl kp kl rfl rfl) ⟨_, rfl⟩) (List.nil_sublist _) ?_
  exact ⟨_, _, fallT_no h_3, rfl, rfl⟩

set_option maxRecDepth 4000 in
set_option maxHeartbeats 1000000 in
theorem Y_iFallD (d : DX) (hz : d.dat.okz) (hl : d.dat.lim 1000000000) (keep : Int) :
    Ct Tryz.prog 31 [.agg #[.slice d.a d.l.length d.c, str d.jt, .int .i64 d.js], .int .i64 keep] [] (fun w => SeesA w (rdsD d)) (fun v A' => ∃ y : DX, y.dat = d.dat.fall keep ∧ v = .agg #[.slice y.a y.l.length y.c, str y.jt, .int .i64 y.js] ∧ A' = [.rows (rdsD y)]) := by
  refine Ct.intro Tryz.func31 rfl Tryz.ntmps31 (lb rfl) fun w0 hpre => ?_
  have hs_1 : Sees w0 (.slice d.a d.l.length d.c) 3 d.l.length (d.l.flatMap encO) := (hpre).head
  have hi_2 : SeesA w0 (d.l.flatMap rdsO) := (hpre).tail
  have hjt := hz.k2
  have hdl : d.l.length ≤ 1000000000 := by have := hl.l0; simpa only [DX.dat, List.length_map] using this
  refine jC <| jF ?_
  refine jH rfl (kG (cs := [.slice d.a d.l.length d.c, str d.jt, iv d.js]) rfl rfl) ?_
  rintro _ _ ⟨b_3, rfl, rfl⟩
  refine jH rfl (jo (z := .agg #[.slice none 0 0, str [], iv 0]) (cs := [.slice none 0 0, str [], iv 0]) ko rfl) ?_
  rintro _ _ ⟨b_4, rfl, rfl⟩
  refine jE <| jB <| jC <| jF <| jK (jO 1 (vs := [.slice d.a d.l.length d.c, str d.jt, iv d.js]) rfl rfl ke kd rfl rfl) ?_
  refine jH rfl (jI [] Tryz.call62 rfl (Z_implDiskclone d hl) rfl (fun w hw => hw.seeOutA hpre nMA)) ?_
  rintro _ _ ⟨_, ⟨y_5, hy_6, rfl, rfl⟩, rfl⟩
  refine jH rfl (jo (z := .agg #[.slice none 0 0, str [], iv 0]) (cs := [.slice none 0 0, str [], iv 0]) ko rfl) ?_
  rintro _ _ ⟨b_7, rfl, rfl⟩
  refine jH rfl (ja 0 (vs := [.slice y_5.a y_5.l.length y_5.c, str y_5.jt, iv y_5.js]) (cs' := [.slice y_5.a y_5.l.length y_5.c, str y_5.jt, iv y_5.js]) rfl rfl rfl rfl kd rfl rfl (lb rfl) rfl) ?_
  rintro _ _ rfl
  refine jE <| jB <| jC <| jC <| jF <| jK (jO 3 (vs := [.slice d.a d.l.length d.c, str d.jt, iv d.js]) rfl rfl ke kd rfl rfl) ?_
  refine jH rfl (jI [] Tryz.call47 rfl (Y_implDiskOk d hz (by omega)) rfl (fun w hw => hw.seeOutA hpre nMA)) ?_
  rintro _ _ ⟨_, ⟨rfl, rfl⟩, rfl⟩
  refine jA (jp rfl) <| jE <| jB ?_
  rcases Bool.eq_false_or_eq_true (diskOk d.dat) with h_8 | h_8
  · have hjl : d.jt.length ≤ 20000 := jour_len h_8
    have hl2 := disk_two h_8
    have hyl : y_5.l.length = d.l.length := by have e_ := congrArg (fun q : DD => q.slots.length) hy_6; simpa only [DX.dat, List.length_map] using e_
    refine jR (cB (cN h_8)) <| jT <| jB <| jC <| jF <| jA (jQ fo31_1 rfl) <| jK (jO 3 (vs := [str d.jt, iv d.js]) rfl rfl kp kl rfl rfl) <| jA (jD (v := iv keep) rfl) ?_
    refine jH rfl (jI [] Tryz.call84 rfl (Y_iFallJ d.jt d.js keep (by omega)) rfl (fun _ _ => trivial)) ?_
    rintro _ _ ⟨_, ⟨u_9, n_10, e_11, rfl, rfl⟩, rfl⟩
    refine jA (jQ fo31_1 rfl) ?_
    refine jH rfl (ja 0 (vs := [str u_9, iv n_10]) (cs' := [.slice y_5.a y_5.l.length y_5.c, str u_9, iv n_10]) rfl rfl rfl rfl kl rfl rfl (lb rfl) rfl) ?_
    rintro _ _ rfl
    refine jE <| jB <| jC <| jC <| kT (L' := [Res.row (.slice y_5.a y_5.l.length y_5.c) 60 3 y_5.l.length (y_5.l.flatMap encO), Res.rows (y_5.l.flatMap rdsO), bk b_7 31 [.slice y_5.a y_5.l.length y_5.c, str u_9, iv n_10], bk b_4 31 [.slice none 0 0, str [], iv 0], bk b_3 31 [.slice d.a d.l.length d.c, str d.jt, iv d.js]]) (fun w hw => hw.headR (r := ⟨.slice y_5.a y_5.l.length y_5.c, 60, 3, y_5.l.length, y_5.l.flatMap encO⟩) (A := y_5.l.flatMap rdsO) 1 rfl) <| jF <| jA (jQ fo31_0 rfl) <| jK (jZ 2 (v := .slice y_5.a y_5.l.length y_5.c) rfl rfl ks rfl) <| jA (jr km rfl) <| jA (jD (v := iv 0) rfl) ?_
    refine jE <| jB <| jf <| kT (L' := [Res.row (.slice y_5.a y_5.l.length y_5.c) 60 3 y_5.l.length (y_5.l.flatMap encO), Res.rows (y_5.l.flatMap rdsO), bk b_7 31 [.slice y_5.a y_5.l.length y_5.c, str u_9, iv n_10], bk b_4 31 [.slice none 0 0, str [], iv 0], bk b_3 31 [.slice d.a d.l.length d.c, str d.jt, iv d.js]]) (fun w hw => hw.perm (pick_perm [0, 0] (A := [Res.row (.slice y_5.a y_5.l.length y_5.c) 60 3 y_5.l.length (y_5.l.flatMap encO), Res.rows (y_5.l.flatMap rdsO)]) (F := [bk b_7 31 [.slice y_5.a y_5.l.length y_5.c, str u_9, iv n_10], bk b_4 31 [.slice none 0 0, str [], iv 0], bk b_3 31 [.slice d.a d.l.length d.c, str d.jt, iv d.js]]) rfl).symm) <| kD (fun k_ e_ L_ => ∃ i : Nat, ∃ q : List OX, (i ≤ y_5.l.length) ∧ (q.length = y_5.l.length) ∧ (q.map OX.t = ((y_5.l.map OX.t).take i).map slotF ++ (y_5.l.map OX.t).drop i) ∧ e_ 4 = .pointer (some ⟨b_4, 0, none⟩) ∧ e_ 5 = .pointer (some ⟨b_7, 0, none⟩) ∧ e_ 20 = .slice y_5.a y_5.l.length y_5.c ∧ e_ 21 = nv y_5.l.length ∧ e_ 22 = nv i ∧ L_ = [Res.row (.slice y_5.a y_5.l.length y_5.c) 60 3 y_5.l.length (q.flatMap encO), Res.rows (q.flatMap rdsO), bk b_7 31 [.slice y_5.a y_5.l.length y_5.c, str u_9, iv n_10], bk b_4 31 [.slice none 0 0, str [], iv 0], bk b_3 31 [.slice d.a d.l.length d.c, str d.jt, iv d.js]] ∧ k_ = y_5.l.length - i) _ ⟨0, y_5.l, by omega, rfl, (by simp), rfl, rfl, rfl, rfl, rfl, rfl, rfl⟩ ?_
    rintro _ e_12 _ ⟨i, q, hi, hqn, hq, he_13, he_14, he_15, he_16, he_17, rfl, rfl⟩
    refine jC <| jF <| jA (jl he_17 he_16) <| jE <| jB <| jC ?_
    by_cases h_18 : ((i : Nat) : Int) < ((y_5.l.length : Nat) : Int)
    · have hlt : i < q.length := by omega
      have hlt2 : i < y_5.l.length := by omega
      refine jW (cB (dT h_18)) <| jT <| jB <| jC <| jf <| jC <| jF <| jA (jD (v := nv i) he_17) ?_
      refine kN fun hst => ?_
      obtain ⟨hr_19, hr_19b, -⟩ := row_some 0 rfl (by omega) hst
      refine jA (jk (i := i) km kj hr_19 hr_19b he_15 he_17 (by omega)) <| jK (LO.loadRK 0 (vs := [iv ((q.getD i o0).t.seq), .slice ((q.getD i o0).x.a0) ((q.getD i o0).t.cells.length) ((q.getD i o0).x.c0), .bool ((q.getD i o0).t.whole)]) rfl rfl gB kj (flat_take encO_len o0 q i (by omega)) rfl (by decide)) ?_
      refine jH rfl (jo (z := .agg #[iv 0, .slice none 0 0, .bool false]) (cs := [iv 0, .slice none 0 0, .bool false]) gD rfl) ?_
      rintro _ _ ⟨b_20, rfl, rfl⟩
      refine jA (jG (v := nv i) rfl) ?_
      refine jH rfl (ja 0 (vs := [iv ((q.getD i o0).t.seq), .slice ((q.getD i o0).x.a0) ((q.getD i o0).t.cells.length) ((q.getD i o0).x.c0), .bool ((q.getD i o0).t.whole)]) (cs' := [iv ((q.getD i o0).t.seq), .slice ((q.getD i o0).x.a0) ((q.getD i o0).t.cells.length) ((q.getD i o0).x.c0), .bool ((q.getD i o0).t.whole)]) rfl rfl rfl rfl kj rfl rfl (lb rfl) rfl) ?_
      rintro _ _ rfl
      refine jE <| jB <| jC <| jF <| jA (jQ fo60_2 rfl) <| jK (jZ 0 (v := .bool ((q.getD i o0).t.whole)) rfl rfl gI rfl) <| jA (jp rfl) <| jE <| jB ?_
      rcases Bool.eq_false_or_eq_true ((q.getD i o0).t.whole) with h_21 | h_21
      · refine jR (cB (cN h_21)) <| jT <| jm <| jB <| jF <| jA (jc (c := ((i + 1 : Nat) : Int)) he_17 rfl (wr (by omega))) <| jA (jD (v := iv ((i + 1 : Nat) : Int)) rfl) <| jE <| kB [1, 1, 1, 1, 1] (A := [Res.row (.slice y_5.a y_5.l.length y_5.c) 60 3 y_5.l.length (q.flatMap encO), Res.rows (q.flatMap rdsO), bk b_7 31 [.slice y_5.a y_5.l.length y_5.c, str u_9, iv n_10], bk b_4 31 [.slice none 0 0, str [], iv 0], bk b_3 31 [.slice d.a d.l.length d.c, str d.jt, iv d.js]]) rfl ?_
        refine jq (y_5.l.length - (i + 1)) (by omega) ⟨i + 1, q, by omega, by omega, (fallq_keep hlt2 hqn hq h_21), he_13, he_14, he_15, he_16, rfl, rfl, rfl⟩
      refine jW (cB (cN h_21)) <| jF <| jA (jQ fo31_0 he_14) <| jK (jZ 3 (v := .slice y_5.a y_5.l.length y_5.c) rfl rfl ks rfl) <| jA (jD (v := nv i) rfl) <| jA (kW (ps := []) (cs := [iv 0, .slice none 0 0, .bool false]) rfl (by kernel_rfl)) <| jA (jk (i := i) km kj hr_19 hr_19b rfl rfl (by omega)) ?_
      refine jH rfl (JO.storeR 1 (vs := [iv 0, .slice none 0 0, .bool false]) (cs' := (q.set i (⟨⟨none, 0⟩, ⟨0, [], false⟩⟩ : OX)).flatMap encO) rfl rfl rfl rfl kj rfl rfl (by decide) (by rw [flat_length encO_len]; omega) (flat_set encO_len q i (⟨⟨none, 0⟩, ⟨0, [], false⟩⟩ : OX) (by omega))) ?_
      rintro _ _ rfl
      refine jE <| jm <| jB <| jF <| jA (jc (c := ((i + 1 : Nat) : Int)) he_17 rfl (wr (by omega))) <| jA (jD (v := iv ((i + 1 : Nat) : Int)) rfl) <| jE <| ju (L' := [Res.rows ((q.take i).flatMap rdsO), Res.rows (rdsO (q.getD i o0)), Res.rows ((q.drop (i + 1)).flatMap rdsO), bk b_20 60 [iv ((q.getD i o0).t.seq), .slice ((q.getD i o0).x.a0) ((q.getD i o0).t.cells.length) ((q.getD i o0).x.c0), .bool ((q.getD i o0).t.whole)], Res.row (.slice y_5.a y_5.l.length y_5.c) 60 3 y_5.l.length ((q.set i (⟨⟨none, 0⟩, ⟨0, [], false⟩⟩ : OX)).flatMap encO), bk b_7 31 [.slice y_5.a y_5.l.length y_5.c, str u_9, iv n_10], bk b_4 31 [.slice none 0 0, str [], iv 0], bk b_3 31 [.slice d.a d.l.length d.c, str d.jt, iv d.js]]) (fun w hw => hw.splitR 2 rfl (flatMap_at o0 hlt)) <| JQ.nilRow 48 2 <| ju (L' := [Res.rows (rdsO (⟨⟨none, 0⟩, ⟨0, [], false⟩⟩ : OX)), Res.rows ((q.take i).flatMap rdsO), Res.rows (rdsO (q.getD i o0)), Res.rows ((q.drop (i + 1)).flatMap rdsO), bk b_20 60 [iv ((q.getD i o0).t.seq), .slice ((q.getD i o0).x.a0) ((q.getD i o0).t.cells.length) ((q.getD i o0).x.c0), .bool ((q.getD i o0).t.whole)], Res.row (.slice y_5.a y_5.l.length y_5.c) 60 3 y_5.l.length ((q.set i (⟨⟨none, 0⟩, ⟨0, [], false⟩⟩ : OX)).flatMap encO), bk b_7 31 [.slice y_5.a y_5.l.length y_5.c, str u_9, iv n_10], bk b_4 31 [.slice none 0 0, str [], iv 0], bk b_3 31 [.slice d.a d.l.length d.c, str d.jt, iv d.js]]) (fun w hw => hw.closeR (A := rdsO (⟨⟨none, 0⟩, ⟨0, [], false⟩⟩ : OX)) [0] rfl) ?_
      refine ju (L' := [Res.rows ((q.set i (⟨⟨none, 0⟩, ⟨0, [], false⟩⟩ : OX)).flatMap rdsO), Res.rows (rdsO (q.getD i o0)), bk b_20 60 [iv ((q.getD i o0).t.seq), .slice ((q.getD i o0).x.a0) ((q.getD i o0).t.cells.length) ((q.getD i o0).x.c0), .bool ((q.getD i o0).t.whole)], Res.row (.slice y_5.a y_5.l.length y_5.c) 60 3 y_5.l.length ((q.set i (⟨⟨none, 0⟩, ⟨0, [], false⟩⟩ : OX)).flatMap encO), bk b_7 31 [.slice y_5.a y_5.l.length y_5.c, str u_9, iv n_10], bk b_4 31 [.slice none 0 0, str [], iv 0], bk b_3 31 [.slice d.a d.l.length d.c, str d.jt, iv d.js]]) (fun w hw => hw.joinR [1, 0, 1] rfl (flatMap_setAt hlt)) <| kB [3, 0, 2, 2, 2] (A := [Res.row (.slice y_5.a y_5.l.length y_5.c) 60 3 y_5.l.length ((q.set i (⟨⟨none, 0⟩, ⟨0, [], false⟩⟩ : OX)).flatMap encO), Res.rows ((q.set i (⟨⟨none, 0⟩, ⟨0, [], false⟩⟩ : OX)).flatMap rdsO), bk b_7 31 [.slice y_5.a y_5.l.length y_5.c, str u_9, iv n_10], bk b_4 31 [.slice none 0 0, str [], iv 0], bk b_3 31 [.slice d.a d.l.length d.c, str d.jt, iv d.js]]) rfl ?_
      refine jq (y_5.l.length - (i + 1)) (by omega) ⟨i + 1, q.set i (⟨⟨none, 0⟩, ⟨0, [], false⟩⟩ : OX), by omega, (by rw [List.length_set]; exact hqn), (fallq_set hlt2 hqn hq h_21 rfl), he_13, he_14, he_15, he_16, rfl, rfl, rfl⟩
    refine jR (cB (dF h_18)) <| jx <| jb <| jb <| jy <| jB <| jC <| jF <| jK (jO 2 (vs := [.slice y_5.a y_5.l.length y_5.c, str u_9, iv n_10]) rfl he_14 ke kd rfl rfl) ?_
    refine jH rfl (ja 3 (vs := [.slice y_5.a y_5.l.length y_5.c, str u_9, iv n_10]) (cs' := [.slice y_5.a y_5.l.length y_5.c, str u_9, iv n_10]) rfl he_13 rfl rfl kd rfl rfl (lb rfl) rfl) ?_
    rintro _ _ rfl
    refine jE <| jB <| jN <| ju (L' := [Res.row (.slice y_5.a q.length y_5.c) 60 3 q.length (q.flatMap encO), Res.rows (q.flatMap rdsO), bk b_7 31 [.slice y_5.a y_5.l.length y_5.c, str u_9, iv n_10], bk b_4 31 [.slice y_5.a y_5.l.length y_5.c, str u_9, iv n_10], bk b_3 31 [.slice d.a d.l.length d.c, str d.jt, iv d.js]]) (fun w hw => hw.eqL (by rw [hqn] <;> rfl)) <| ju (L' := [Res.rows (rdsOS y_5.a y_5.c q), bk b_7 31 [.slice y_5.a y_5.l.length y_5.c, str u_9, iv n_10], bk b_4 31 [.slice y_5.a y_5.l.length y_5.c, str u_9, iv n_10], bk b_3 31 [.slice d.a d.l.length d.c, str d.jt, iv d.js]]) (fun w hw => hw.consR (r := ⟨.slice y_5.a q.length y_5.c, 60, 3, q.length, q.flatMap encO⟩) (A := q.flatMap rdsO) [0, 0] rfl) <| jV (.inl rfl) rfl (kA (jO 2 (vs := [.slice y_5.a y_5.l.length y_5.c, str u_9, iv n_10]) rfl he_13 ke kd rfl rfl) ⟨_, he_13⟩) (tS 1 _) ?_
    have hf := fall_dat (keep := keep) hy_6 h_8 (i := i) (by omega) hq
    rw [e_11] at hf
    exact ⟨(⟨y_5.a, y_5.c, q, u_9, n_10⟩ : DX), hf, by simp only [hqn], rfl⟩
  refine jW (cB (cN h_8)) <| jC <| jF <| jK (jO 0 (vs := [.slice y_5.a y_5.l.length y_5.c, str y_5.jt, iv y_5.js]) rfl rfl ke kd rfl rfl) ?_
  refine jH rfl (ja 2 (vs := [.slice y_5.a y_5.l.length y_5.c, str y_5.jt, iv y_5.js]) (cs' := [.slice y_5.a y_5.l.length y_5.c, str y_5.jt, iv y_5.js]) rfl rfl rfl rfl kd rfl rfl (lb rfl) rfl) ?_
  rintro _ _ rfl
  refine jE <| jB <| jN <| jX <| kM (pick_perm [1] (A := [Res.rows (rdsD y_5)]) (F := [bk b_7 31 [.slice y_5.a y_5.l.length y_5.c, str y_5.jt, iv y_5.js], bk b_4 31 [.slice y_5.a y_5.l.length y_5.c, str y_5.jt, iv y_5.js], bk b_3 31 [.slice d.a d.l.length d.c, str d.jt, iv d.js]]) rfl).symm <| jV (.inl rfl) rfl (kA (jO 2 (vs := [.slice y_5.a y_5.l.length y_5.c, str y_5.jt, iv y_5.js]) rfl rfl ke kd rfl rfl) ⟨_, rfl⟩) (tS 1 _) ?_
  exact ⟨y_5, by rw [fall_not (by exact h_8)]; exact hy_6, rfl, rfl⟩

theorem Y_sAdd (t : Str) (js : Int) (u : Str) (hl : t.length ≤ 1000000000) (hu : u.length ≤ 1000000000) :
    Ct Tryz.prog 180 [.agg #[str t, .int .i64 js], str u] [] (fun _ => True) (fun v A' => ∃ q b, addT t js u = (q, b) ∧ v = .tuple #[.agg #[str q, .int .i64 js], .bool b] ∧ A' = []) := by
  refine Ct.intro Tryz.func180 rfl Tryz.ntmps180 (lb rfl) fun w0 hpre => ?_
  refine jC <| jF ?_
  refine jH rfl (kG (cs := [str t, iv js]) rfl rfl) ?_
  rintro _ _ ⟨b_1, rfl, rfl⟩
  refine jH rfl (jo (z := .agg #[str [], iv 0]) (cs := [str [], iv 0]) gN rfl) ?_
  rintro _ _ ⟨b_2, rfl, rfl⟩
  refine jA (jG (v := .bool false) rfl) <| jE <| jB <| jC <| jC <| jF <| jK (jO 1 (vs := [str t, iv js]) rfl rfl kp kl rfl rfl) ?_
  refine jH rfl (jI [] Tryz.call95 rfl (Y_specJournalOk t js (by omega)) rfl (fun _ _ => trivial)) ?_
  rintro _ _ ⟨_, ⟨rfl, rfl⟩, rfl⟩
  refine jA (jp rfl) <| jA (jD (v := .bool (!(jourOk t js))) rfl) ?_
  rcases Bool.eq_false_or_eq_true (jourOk t js) with h_3 | h_3
  · have hjr := jour_le h_3
    refine jM rfl rfl rfl (cB (cN h_3)) (jP (jU (jD (v := str u) rfl))) ?_
    rintro _ _ ⟨rfl, rfl⟩
    refine jM rfl rfl rfl (cB (cN h_3)) (jP (jU (kF kg rfl))) ?_
    rintro _ _ ⟨rfl, rfl⟩
    refine jM rfl rfl rfl (cB (cN h_3)) (jP (jU (jQ fo29_0 rfl))) ?_
    rintro _ _ ⟨rfl, rfl⟩
    refine jM rfl rfl rfl (cB (cN h_3)) (jP (jZ 1 (v := str t) rfl rfl ki rfl)) ?_
    rintro _ _ ⟨rfl, rfl⟩
    refine jM rfl rfl rfl (cB (cN h_3)) (jP (jU (kF kg rfl))) ?_
    rintro _ _ ⟨rfl, rfl⟩
    refine jM rfl rfl rfl (cB (cN h_3)) (jP (jU (kZ (c := 20000 - (t.length : Int)) rfl rfl (wr (by omega))))) ?_
    rintro _ _ ⟨rfl, rfl⟩
    refine jM rfl rfl rfl (cB (cN h_3)) (jP (jU (kR rfl rfl))) ?_
    rintro _ _ ⟨rfl, rfl⟩
    refine jA (ji (v := .bool (decide ((20000 - (t.length : Int)) < (u.length : Int)))) (cB (cN h_3)) rfl) <| jE <| jB ?_
    by_cases h_4 : (20000 - (t.length : Int)) < (u.length : Int)
    · refine jW (cB (dT h_4)) <| jC <| jF <| jK (jO 1 (vs := [str t, iv js]) rfl rfl kp kl rfl rfl) ?_
      refine jH rfl (ja 0 (vs := [str t, iv js]) (cs' := [str t, iv js]) rfl rfl rfl rfl kl rfl rfl (lb rfl) rfl) ?_
      rintro _ _ rfl
      refine jA (jG (v := .bool false) rfl) <| jE <| jB <| jN <| jX <| kC (.inl rfl) rfl (kA (jO 0 (vs := [str t, iv js]) rfl rfl kp kl rfl rfl) ⟨_, rfl⟩) (jJ (v := .bool false) rfl) (List.nil_sublist _) ?_
      exact ⟨_, _, addT_no (by rintro ⟨h_1, h_2⟩; first | (rw [h_3] at h_1; cases h_1; done) | omega), rfl, rfl⟩
    refine jR (cB (dF h_4)) <| jT <| jB <| jC <| jF <| jA (jQ fo29_0 rfl) <| jK (jZ 1 (v := str t) rfl rfl ki rfl) <| jA (jD (v := str u) rfl) <| jA (kc rfl rfl (by (try simp only [List.length_append, List.length_cons, List.length_nil, List.length_drop, List.length_take]); omega)) <| jA (jQ fo29_0 rfl) ?_
    refine jH rfl (ja 1 (vs := [str (t ++ u)]) (cs' := [str (t ++ u), iv js]) rfl rfl rfl rfl kt rfl rfl (lb rfl) rfl) ?_
    rintro _ _ rfl
    refine jE <| jB <| jC <| jF <| jK (jO 1 (vs := [str (t ++ u), iv js]) rfl rfl kp kl rfl rfl) ?_
    refine jH rfl (ja 0 (vs := [str (t ++ u), iv js]) (cs' := [str (t ++ u), iv js]) rfl rfl rfl rfl kl rfl rfl (lb rfl) rfl) ?_
    rintro _ _ rfl
    refine jA (jG (v := .bool true) rfl) <| jE <| jB <| jN <| kC (.inl rfl) rfl (kA (jO 0 (vs := [str (t ++ u), iv js]) rfl rfl kp kl rfl rfl) ⟨_, rfl⟩) (jJ (v := .bool true) rfl) (List.nil_sublist _) ?_
    exact ⟨_, _, addT_yes h_3 (by omega), rfl, rfl⟩
  refine jS (b := true) rfl rfl rfl (cB (cN h_3)) <| jS (b := true) rfl rfl rfl (cB (cN h_3)) <| jS (b := true) rfl rfl rfl (cB (cN h_3)) <| jS (b := true) rfl rfl rfl (cB (cN h_3)) <| jS (b := true) rfl rfl rfl (cB (cN h_3)) <| jS (b := true) rfl rfl rfl (cB (cN h_3)) <| jS (b := true) rfl rfl rfl (cB (cN h_3)) <| jA (jh (v := .bool true) (cB (cN h_3)) rfl) <| jE <| jB ?_
  refine jW (cB rfl) <| jC <| jF <| jK (jO 1 (vs := [str t, iv js]) rfl rfl kp kl rfl rfl) ?_
  refine jH rfl (ja 0 (vs := [str t, iv js]) (cs' := [str t, iv js]) rfl rfl rfl rfl kl rfl rfl (lb rfl) rfl) ?_
  rintro _ _ rfl
  refine jA (jG (v := .bool false) rfl) <| jE <| jB <| jN <| jX <| kC (.inl rfl) rfl (kA (jO 0 (vs := [str t, iv js]) rfl rfl kp kl rfl rfl) ⟨_, rfl⟩) (jJ (v := .bool false) rfl) (List.nil_sublist _) ?_
  exact ⟨_, _, addT_no (by rintro ⟨h_1, h_2⟩; first | (rw [h_3] at h_1; cases h_1; done) | omega), rfl, rfl⟩

theorem Y_sFlush (t : Str) (js : Int) (hl : t.length ≤ 1000000000) :
    Ct Tryz.prog 182 [.agg #[str t, .int .i64 js]] [] (fun _ => True) (fun v A' => ∃ k, flushT t js = k ∧ v = .agg #[str t, .int .i64 k] ∧ A' = []) := by
  refine Ct.intro Tryz.func182 rfl Tryz.ntmps182 (lb rfl) fun w0 hpre => ?_
  refine jC <| jF ?_
  refine jH rfl (kG (cs := [str t, iv js]) rfl rfl) ?_
  rintro _ _ ⟨b_1, rfl, rfl⟩
  refine jH rfl (jo (z := .agg #[str [], iv 0]) (cs := [str [], iv 0]) gN rfl) ?_
  rintro _ _ ⟨b_2, rfl, rfl⟩
  refine jE <| jB <| jC <| jC <| jF <| jK (jO 1 (vs := [str t, iv js]) rfl rfl kp kl rfl rfl) ?_
  refine jH rfl (jI [] Tryz.call95 rfl (Y_specJournalOk t js (by omega)) rfl (fun _ _ => trivial)) ?_
  rintro _ _ ⟨_, ⟨rfl, rfl⟩, rfl⟩
  refine jE <| jB ?_
  rcases Bool.eq_false_or_eq_true (jourOk t js) with h_3 | h_3
  · have hjr := jour_le h_3
    refine jW (cB h_3) <| jF <| jA (jQ fo29_0 rfl) <| jK (jZ 1 (v := str t) rfl rfl ki rfl) <| jA (kF kg rfl) <| jA (jQ fo29_1 rfl) ?_
    refine jH rfl (ja 1 (vs := [iv (t.length : Int)]) (cs' := [str t, iv (t.length : Int)]) rfl rfl rfl rfl gA rfl rfl (lb rfl) rfl) ?_
    rintro _ _ rfl
    refine jE <| jB <| jC <| jF <| jK (jO 1 (vs := [str t, iv (t.length : Int)]) rfl rfl kp kl rfl rfl) ?_
    refine jH rfl (ja 0 (vs := [str t, iv (t.length : Int)]) (cs' := [str t, iv (t.length : Int)]) rfl rfl rfl rfl kl rfl rfl (lb rfl) rfl) ?_
    rintro _ _ rfl
    refine jE <| jB <| jN <| jV (.inl rfl) rfl (kA (jO 0 (vs := [str t, iv (t.length : Int)]) rfl rfl kp kl rfl rfl) ⟨_, rfl⟩) (List.nil_sublist _) ?_
    exact ⟨_, flushT_yes h_3, rfl, rfl⟩
  refine jR (cB h_3) <| jT <| jB <| jC <| jF <| jK (jO 1 (vs := [str t, iv js]) rfl rfl kp kl rfl rfl) ?_
  refine jH rfl (ja 0 (vs := [str t, iv js]) (cs' := [str t, iv js]) rfl rfl rfl rfl kl rfl rfl (lb rfl) rfl) ?_
  rintro _ _ rfl
  refine jE <| jB <| jN <| jV (.inl rfl) rfl (kA (jO 0 (vs := [str t, iv js]) rfl rfl kp kl rfl rfl) ⟨_, rfl⟩) (List.nil_sublist _) ?_
  exact ⟨_, flushT_no h_3, rfl, rfl⟩

theorem Y_sFallJ (t : Str) (js keep : Int) (hl : t.length ≤ 1000000000) :
    Ct Tryz.prog 97 [.agg #[str t, .int .i64 js], .int .i64 keep] [] (fun _ => True) (fun v A' => ∃ q k, fallT t js keep = (q, k) ∧ v = .agg #[str q, .int .i64 k] ∧ A' = []) := by
  refine Ct.intro Tryz.func97 rfl Tryz.ntmps97 (lb rfl) fun w0 hpre => ?_
  refine jC <| jF ?_
  refine jH rfl (kG (cs := [str t, iv js]) rfl rfl) ?_
  rintro _ _ ⟨b_1, rfl, rfl⟩
  refine jH rfl (jo (z := .agg #[str [], iv 0]) (cs := [str [], iv 0]) gN rfl) ?_
  rintro _ _ ⟨b_2, rfl, rfl⟩
  refine jE <| jB <| jC <| jC <| jF <| jK (jO 1 (vs := [str t, iv js]) rfl rfl kp kl rfl rfl) ?_
  refine jH rfl (jI [] Tryz.call95 rfl (Y_specJournalOk t js (by omega)) rfl (fun _ _ => trivial)) ?_
  rintro _ _ ⟨_, ⟨rfl, rfl⟩, rfl⟩
  refine jA (jp rfl) <| jE <| jB ?_
  rcases Bool.eq_false_or_eq_true (jourOk t js) with h_3 | h_3
  · have hjr := jour_le h_3
    obtain ⟨jn, rfl⟩ : ∃ jn : Nat, js = ((jn : Nat) : Int) := ⟨js.toNat, by omega⟩
    have hbl := bro_le keep (t.length - jn)
    refine jR (cB (cN h_3)) <| jT <| jB <| jC <| kJ [bk b_2 29 [str [], iv 0], bk b_1 29 [str t, nv jn]] 14 mixed (by simp) <| jL 0 rfl (jQ fo29_0 rfl) <| jw 1 rfl (jZ 1 (v := str t) rfl rfl ki rfl) <| jL 2 rfl (jQ fo29_1 rfl) <| jw 3 rfl (jZ 1 (v := nv jn) rfl rfl kq rfl) <| jL 4 rfl (jD (v := iv keep) rfl) ?_
    refine jL 5 rfl (jQ fo29_0 rfl) <| jw 6 rfl (jZ 1 (v := str t) rfl rfl ki rfl) <| jL 7 rfl (kF kg rfl) <| jL 8 rfl (jQ fo29_1 rfl) <| jw 9 rfl (jZ 1 (v := nv jn) rfl rfl kq rfl) <| jL 10 rfl (kZ (c := ((t.length - jn : Nat) : Int)) rfl rfl (wr (by omega))) <| jj (i := 11) ?_
    refine jz rfl rfl (jI [] Tryz.call59 rfl (Y_specbro keep (t.length - jn)) rfl (fun _ _ => trivial)) ?_
    rintro _ _ ⟨_, ⟨rfl, rfl⟩, rfl⟩
    have hbro3 := bro_le keep (t.length - jn)
    refine ⟨by simp, ?_⟩
    refine jL 12 rfl (jc (c := ((jn + (bro keep (t.length - jn)) : Nat) : Int)) rfl rfl (wr (by omega))) <| jL 13 rfl (PO.sliceSh (j := (jn + (bro keep (t.length - jn)))) kg rfl rfl (by omega)) <| jL 14 rfl (jQ fo29_0 rfl) <| jj (i := 15) ?_
    refine JX.ls rfl (ja 1 (vs := [str (t.take (jn + (bro keep (t.length - jn))))]) (cs' := [str (t.take (jn + (bro keep (t.length - jn)))), nv jn]) rfl rfl rfl rfl kt rfl rfl (lb rfl) rfl) ?_
    rintro _ _ rfl
    refine jB <| jC <| jF <| jA (jQ fo29_0 rfl) <| jK (jZ 1 (v := str (t.take (jn + (bro keep (t.length - jn))))) rfl rfl ki rfl) <| jA (kF kg rfl) <| jA (jQ fo29_1 rfl) ?_
    refine jH rfl (ja 1 (vs := [iv ((t.take (jn + (bro keep (t.length - jn)))).length : Int)]) (cs' := [str (t.take (jn + (bro keep (t.length - jn)))), iv ((t.take (jn + (bro keep (t.length - jn)))).length : Int)]) rfl rfl rfl rfl gA rfl rfl (lb rfl) rfl) ?_
    rintro _ _ rfl
    refine jE <| jB <| jC <| jF <| jK (jO 1 (vs := [str (t.take (jn + (bro keep (t.length - jn)))), iv ((t.take (jn + (bro keep (t.length - jn)))).length : Int)]) rfl rfl kp kl rfl rfl) ?_
    refine jH rfl (ja 0 (vs := [str (t.take (jn + (bro keep (t.length - jn)))), iv ((t.take (jn + (bro keep (t.length - jn)))).length : Int)]) (cs' := [str (t.take (jn + (bro keep (t.length - jn)))), iv ((t.take (jn + (bro keep (t.length - jn)))).length : Int)]) rfl rfl rfl rfl kl rfl rfl (lb rfl) rfl) ?_
    rintro _ _ rfl
    refine jE <| jB <| jN <| jV (.inl rfl) rfl (kA (jO 0 (vs := [str (t.take (jn + (bro keep (t.length - jn)))), iv ((t.take (jn + (bro keep (t.length - jn)))).length : Int)]) rfl rfl kp kl rfl rfl) ⟨_, rfl⟩) (List.nil_sublist _) ?_
    refine ⟨_, _, (fallT_yes h_3).trans ?_, rfl, rfl⟩
    have hx : fallN t ((jn : Nat) : Int) keep = jn + bro keep (t.length - jn) := rfl
    rw [hx]
    congr 2
    rw [List.length_take]
    omega
  refine jW (cB (cN h_3)) <| jC <| jF <| jK (jO 1 (vs := [str t, iv js]) rfl rfl kp kl rfl rfl) ?_
  refine jH rfl (ja 0 (vs := [str t, iv js]) (cs' := [str t, iv js]) rfl rfl rfl rfl kl rfl rfl (lb rfl) rfl) ?_
  rintro _ _ rfl
  refine jE <| jB <| jN <| jX <| jV (.inl rfl) rfl (kA (jO 0 (vs := [str t, iv js]) rfl rfl kp kl rfl rfl) ⟨_, rfl⟩) (List.nil_sublist _) ?_
  exact ⟨_, _, fallT_no h_3, rfl, rfl⟩

set_option maxRecDepth 4000 in
set_option maxHeartbeats 1000000 in
theorem Y_sFallD (d : DX) (hz : d.dat.okz) (hl : d.dat.lim 1000000000) (keep : Int) :
    Ct Tryz.prog 44 [.agg #[.slice d.a d.l.length d.c, str d.jt, .int .i64 d.js], .int .i64 keep] [] (fun w => SeesA w (rdsD d)) (fun v A' => ∃ y : DX, y.dat = d.dat.fall keep ∧ v = .agg #[.slice y.a y.l.length y.c, str y.jt, .int .i64 y.js] ∧ A' = [.rows (rdsD y)]) := by
  refine Ct.intro Tryz.func44 rfl Tryz.ntmps44 (lb rfl) fun w0 hpre => ?_
  have hs_1 : Sees w0 (.slice d.a d.l.length d.c) 3 d.l.length (d.l.flatMap encO) := (hpre).head
  have hi_2 : SeesA w0 (d.l.flatMap rdsO) := (hpre).tail
  have hjt := hz.k2
  have hdl : d.l.length ≤ 1000000000 := by have := hl.l0; simpa only [DX.dat, List.length_map] using this
  refine jC <| jF ?_
  refine jH rfl (kG (cs := [.slice d.a d.l.length d.c, str d.jt, iv d.js]) rfl rfl) ?_
  rintro _ _ ⟨b_3, rfl, rfl⟩
  refine jH rfl (jo (z := .agg #[.slice none 0 0, str [], iv 0]) (cs := [.slice none 0 0, str [], iv 0]) ko rfl) ?_
  rintro _ _ ⟨b_4, rfl, rfl⟩
  refine jE <| jB <| jC <| jF <| jK (jO 1 (vs := [.slice d.a d.l.length d.c, str d.jt, iv d.js]) rfl rfl ke kd rfl rfl) ?_
  refine jH rfl (jI [] Tryz.call56 rfl (Z_specl23Copy d hl) rfl (fun w hw => hw.seeOutA hpre nMA)) ?_
  rintro _ _ ⟨_, ⟨y_5, hy_6, rfl, rfl⟩, rfl⟩
  refine jH rfl (ja 2 (vs := [.slice y_5.a y_5.l.length y_5.c, str y_5.jt, iv y_5.js]) (cs' := [.slice y_5.a y_5.l.length y_5.c, str y_5.jt, iv y_5.js]) rfl rfl rfl rfl kd rfl rfl (lb rfl) rfl) ?_
  rintro _ _ rfl
  refine jE <| jB <| jC <| jC ?_
  have hzy : y_5.dat.okz := by rw [hy_6]; exact hz
  have hly : y_5.dat.lim 1000000000 := by rw [hy_6]; exact hl
  have hyl : y_5.l.length = d.l.length := by have e_ := congrArg (fun q : DD => q.slots.length) hy_6; simpa only [DX.dat, List.length_map] using e_
  have hyt : y_5.jt = d.jt := congrArg DD.jt hy_6
  have hytl : y_5.jt.length = d.jt.length := by rw [hyt]
  refine jF <| jK (jO 2 (vs := [.slice y_5.a y_5.l.length y_5.c, str y_5.jt, iv y_5.js]) rfl rfl ke kd rfl rfl) ?_
  refine jH rfl (jI [] Tryz.call42 rfl (Y_specDiskOk y_5 hzy (by omega)) rfl (fun w hw => hw.seeRows 0 rfl)) ?_
  rintro _ _ ⟨_, ⟨rfl, rfl⟩, rfl⟩
  refine jA (jp rfl) <| jE <| jB ?_
  rcases Bool.eq_false_or_eq_true (diskOk y_5.dat) with h_7 | h_7
  · have hjl : y_5.jt.length ≤ 20000 := jour_len h_7
    have hl2 := disk_two h_7
    refine jR (cB (cN h_7)) <| jT <| jB <| jC <| jF <| jA (jQ fo31_1 rfl) <| jK (jO 2 (vs := [str y_5.jt, iv y_5.js]) rfl rfl kp kl rfl rfl) <| jA (jD (v := iv keep) rfl) ?_
    refine jH rfl (jI [] Tryz.call97 rfl (Y_sFallJ y_5.jt y_5.js keep (by omega)) rfl (fun _ _ => trivial)) ?_
    rintro _ _ ⟨_, ⟨u_8, n_9, e_10, rfl, rfl⟩, rfl⟩
    refine jA (jQ fo31_1 rfl) ?_
    refine jH rfl (ja 2 (vs := [str u_8, iv n_9]) (cs' := [.slice y_5.a y_5.l.length y_5.c, str u_8, iv n_9]) rfl rfl rfl rfl kl rfl rfl (lb rfl) rfl) ?_
    rintro _ _ rfl
    refine jE <| jB <| jC <| jC <| kT (L' := [Res.row (.slice y_5.a y_5.l.length y_5.c) 60 3 y_5.l.length (y_5.l.flatMap encO), Res.rows (y_5.l.flatMap rdsO), bk b_4 31 [.slice none 0 0, str [], iv 0], bk b_3 31 [.slice y_5.a y_5.l.length y_5.c, str u_8, iv n_9]]) (fun w hw => hw.headR (r := ⟨.slice y_5.a y_5.l.length y_5.c, 60, 3, y_5.l.length, y_5.l.flatMap encO⟩) (A := y_5.l.flatMap rdsO) 0 rfl) <| jF <| jA (jG (v := iv 0) rfl) <| jE <| jB <| jf ?_
    refine kT (L' := [Res.row (.slice y_5.a y_5.l.length y_5.c) 60 3 y_5.l.length (y_5.l.flatMap encO), Res.rows (y_5.l.flatMap rdsO), bk b_4 31 [.slice none 0 0, str [], iv 0], bk b_3 31 [.slice y_5.a y_5.l.length y_5.c, str u_8, iv n_9]]) (fun w hw => hw.perm (pick_perm [0, 0] (A := [Res.row (.slice y_5.a y_5.l.length y_5.c) 60 3 y_5.l.length (y_5.l.flatMap encO), Res.rows (y_5.l.flatMap rdsO)]) (F := [bk b_4 31 [.slice none 0 0, str [], iv 0], bk b_3 31 [.slice y_5.a y_5.l.length y_5.c, str u_8, iv n_9]]) rfl).symm) <| kD (fun k_ e_ L_ => ∃ i : Nat, ∃ q : List OX, (i ≤ y_5.l.length) ∧ (q.length = y_5.l.length) ∧ (q.map OX.t = ((y_5.l.map OX.t).take i).map slotF ++ (y_5.l.map OX.t).drop i) ∧ e_ 2 = .pointer (some ⟨b_3, 0, none⟩) ∧ e_ 4 = .pointer (some ⟨b_4, 0, none⟩) ∧ e_ 5 = nv i ∧ L_ = [Res.row (.slice y_5.a y_5.l.length y_5.c) 60 3 y_5.l.length (q.flatMap encO), Res.rows (q.flatMap rdsO), bk b_4 31 [.slice none 0 0, str [], iv 0], bk b_3 31 [.slice y_5.a y_5.l.length y_5.c, str u_8, iv n_9]] ∧ k_ = y_5.l.length - i) _ ⟨0, y_5.l, by omega, rfl, (by simp), rfl, rfl, rfl, rfl, rfl⟩ ?_
    rintro _ e_11 _ ⟨i, q, hi, hqn, hq, he_12, he_13, he_14, rfl, rfl⟩
    refine jC <| jC <| jF <| jA (jD (v := nv i) he_14) <| jA (jQ fo31_0 he_12) <| jK (jZ 3 (v := .slice y_5.a y_5.l.length y_5.c) rfl rfl ks rfl) <| jA (jr km rfl) <| jA (jl rfl rfl) <| jE <| jB ?_
    by_cases h_15 : ((i : Nat) : Int) < ((y_5.l.length : Nat) : Int)
    · have hlt : i < q.length := by omega
      have hlt2 : i < y_5.l.length := by omega
      refine jW (cB (dT h_15)) <| jT <| jB <| jC <| jf <| jC <| jF <| jA (jQ fo31_0 he_12) <| jK (jZ 3 (v := .slice y_5.a y_5.l.length y_5.c) rfl rfl ks rfl) <| jA (jD (v := nv i) he_14) ?_
      refine kN fun hst => ?_
      obtain ⟨hr_16, hr_16b, -⟩ := row_some 0 rfl (by omega) hst
      refine jA (jk (i := i) km kj hr_16 hr_16b rfl rfl (by omega)) <| jA (kL fo60_2 hr_16 rfl) <| jK (ka 0 (v := .bool ((q.getD i o0).t.whole)) rfl rfl gI (flat_at encO_len o0 q i 2 (by omega) (by decide))) <| jA (jp rfl) <| jE <| jB ?_
      rcases Bool.eq_false_or_eq_true ((q.getD i o0).t.whole) with h_17 | h_17
      · refine jR (cB (cN h_17)) <| jT <| jm <| jB <| jF <| jA (jD (v := nv i) he_14) <| jA (jc (c := ((i + 1 : Nat) : Int)) rfl rfl (wr (by omega))) <| jA (jG (v := iv ((i + 1 : Nat) : Int)) rfl) <| jE <| kB [0, 0, 0, 0] (A := [Res.row (.slice y_5.a y_5.l.length y_5.c) 60 3 y_5.l.length (q.flatMap encO), Res.rows (q.flatMap rdsO), bk b_4 31 [.slice none 0 0, str [], iv 0], bk b_3 31 [.slice y_5.a y_5.l.length y_5.c, str u_8, iv n_9]]) rfl ?_
        refine jq (y_5.l.length - (i + 1)) (by omega) ⟨i + 1, q, by omega, by omega, (fallq_keep hlt2 hqn hq h_17), he_12, he_13, rfl, rfl, rfl⟩
      refine jW (cB (cN h_17)) <| jF <| jA (jQ fo31_0 he_12) <| jK (jZ 3 (v := .slice y_5.a y_5.l.length y_5.c) rfl rfl ks rfl) <| jA (jD (v := nv i) he_14) <| jA (kW (ps := []) (cs := [iv 0, .slice none 0 0, .bool false]) rfl (by kernel_rfl)) <| jA (jk (i := i) km kj hr_16 hr_16b rfl rfl (by omega)) ?_
      refine jH rfl (JO.storeR 0 (vs := [iv 0, .slice none 0 0, .bool false]) (cs' := (q.set i (⟨⟨none, 0⟩, ⟨0, [], false⟩⟩ : OX)).flatMap encO) rfl rfl rfl rfl kj rfl rfl (by decide) (by rw [flat_length encO_len]; omega) (flat_set encO_len q i (⟨⟨none, 0⟩, ⟨0, [], false⟩⟩ : OX) (by omega))) ?_
      rintro _ _ rfl
      refine jE <| jm <| jB <| jF <| jA (jD (v := nv i) he_14) <| jA (jc (c := ((i + 1 : Nat) : Int)) rfl rfl (wr (by omega))) <| jA (jG (v := iv ((i + 1 : Nat) : Int)) rfl) <| jE <| ju (L' := [Res.rows ((q.take i).flatMap rdsO), Res.rows (rdsO (q.getD i o0)), Res.rows ((q.drop (i + 1)).flatMap rdsO), Res.row (.slice y_5.a y_5.l.length y_5.c) 60 3 y_5.l.length ((q.set i (⟨⟨none, 0⟩, ⟨0, [], false⟩⟩ : OX)).flatMap encO), bk b_4 31 [.slice none 0 0, str [], iv 0], bk b_3 31 [.slice y_5.a y_5.l.length y_5.c, str u_8, iv n_9]]) (fun w hw => hw.splitR 1 rfl (flatMap_at o0 hlt)) <| JQ.nilRow 48 2 ?_
      refine ju (L' := [Res.rows (rdsO (⟨⟨none, 0⟩, ⟨0, [], false⟩⟩ : OX)), Res.rows ((q.take i).flatMap rdsO), Res.rows (rdsO (q.getD i o0)), Res.rows ((q.drop (i + 1)).flatMap rdsO), Res.row (.slice y_5.a y_5.l.length y_5.c) 60 3 y_5.l.length ((q.set i (⟨⟨none, 0⟩, ⟨0, [], false⟩⟩ : OX)).flatMap encO), bk b_4 31 [.slice none 0 0, str [], iv 0], bk b_3 31 [.slice y_5.a y_5.l.length y_5.c, str u_8, iv n_9]]) (fun w hw => hw.closeR (A := rdsO (⟨⟨none, 0⟩, ⟨0, [], false⟩⟩ : OX)) [0] rfl) <| ju (L' := [Res.rows ((q.set i (⟨⟨none, 0⟩, ⟨0, [], false⟩⟩ : OX)).flatMap rdsO), Res.rows (rdsO (q.getD i o0)), Res.row (.slice y_5.a y_5.l.length y_5.c) 60 3 y_5.l.length ((q.set i (⟨⟨none, 0⟩, ⟨0, [], false⟩⟩ : OX)).flatMap encO), bk b_4 31 [.slice none 0 0, str [], iv 0], bk b_3 31 [.slice y_5.a y_5.l.length y_5.c, str u_8, iv n_9]]) (fun w hw => hw.joinR [1, 0, 1] rfl (flatMap_setAt hlt)) <| kB [2, 0, 1, 1] (A := [Res.row (.slice y_5.a y_5.l.length y_5.c) 60 3 y_5.l.length ((q.set i (⟨⟨none, 0⟩, ⟨0, [], false⟩⟩ : OX)).flatMap encO), Res.rows ((q.set i (⟨⟨none, 0⟩, ⟨0, [], false⟩⟩ : OX)).flatMap rdsO), bk b_4 31 [.slice none 0 0, str [], iv 0], bk b_3 31 [.slice y_5.a y_5.l.length y_5.c, str u_8, iv n_9]]) rfl ?_
      refine jq (y_5.l.length - (i + 1)) (by omega) ⟨i + 1, q.set i (⟨⟨none, 0⟩, ⟨0, [], false⟩⟩ : OX), by omega, (by rw [List.length_set]; exact hqn), (fallq_set hlt2 hqn hq h_17 rfl), he_12, he_13, rfl, rfl, rfl⟩
    refine jR (cB (dF h_15)) <| jx <| jb <| jb <| jy <| jB <| jC <| jF <| jK (jO 3 (vs := [.slice y_5.a y_5.l.length y_5.c, str u_8, iv n_9]) rfl he_12 ke kd rfl rfl) ?_
    refine jH rfl (ja 2 (vs := [.slice y_5.a y_5.l.length y_5.c, str u_8, iv n_9]) (cs' := [.slice y_5.a y_5.l.length y_5.c, str u_8, iv n_9]) rfl he_13 rfl rfl kd rfl rfl (lb rfl) rfl) ?_
    rintro _ _ rfl
    refine jE <| jB <| jN <| ju (L' := [Res.row (.slice y_5.a q.length y_5.c) 60 3 q.length (q.flatMap encO), Res.rows (q.flatMap rdsO), bk b_4 31 [.slice y_5.a y_5.l.length y_5.c, str u_8, iv n_9], bk b_3 31 [.slice y_5.a y_5.l.length y_5.c, str u_8, iv n_9]]) (fun w hw => hw.eqL (by rw [hqn] <;> rfl)) <| ju (L' := [Res.rows (rdsOS y_5.a y_5.c q), bk b_4 31 [.slice y_5.a y_5.l.length y_5.c, str u_8, iv n_9], bk b_3 31 [.slice y_5.a y_5.l.length y_5.c, str u_8, iv n_9]]) (fun w hw => hw.consR (r := ⟨.slice y_5.a q.length y_5.c, 60, 3, q.length, q.flatMap encO⟩) (A := q.flatMap rdsO) [0, 0] rfl) <| jV (.inl rfl) rfl (kA (jO 1 (vs := [.slice y_5.a y_5.l.length y_5.c, str u_8, iv n_9]) rfl he_13 ke kd rfl rfl) ⟨_, he_13⟩) (tS 1 _) ?_
    have hf := fall_dat (y := y_5) (d := y_5) (keep := keep) rfl h_7 (i := i) (by omega) hq
    rw [e_10, hy_6] at hf
    exact ⟨(⟨y_5.a, y_5.c, q, u_8, n_9⟩ : DX), hf, by simp only [hqn], rfl⟩
  refine jW (cB (cN h_7)) <| jC <| jF <| jK (jO 2 (vs := [.slice y_5.a y_5.l.length y_5.c, str y_5.jt, iv y_5.js]) rfl rfl ke kd rfl rfl) ?_
  refine jH rfl (ja 1 (vs := [.slice y_5.a y_5.l.length y_5.c, str y_5.jt, iv y_5.js]) (cs' := [.slice y_5.a y_5.l.length y_5.c, str y_5.jt, iv y_5.js]) rfl rfl rfl rfl kd rfl rfl (lb rfl) rfl) ?_
  rintro _ _ rfl
  refine jE <| jB <| jN <| jX <| jV (.inl rfl) rfl (kA (jO 1 (vs := [.slice y_5.a y_5.l.length y_5.c, str y_5.jt, iv y_5.js]) rfl rfl ke kd rfl rfl) ⟨_, rfl⟩) (tS 1 _) ?_
  exact ⟨y_5, by rw [fall_not (by rw [← hy_6]; exact h_7)]; exact hy_6, rfl, rfl⟩

theorem sameO {p q : SD} : p = q ↔ p.seq = q.seq ∧ p.cells = q.cells ∧ p.whole = q.whole := by cases p; cases q; simp
theorem sameDX {d e : DX} : d.dat = e.dat ↔ d.l.map OX.t = e.l.map OX.t ∧ d.jt = e.jt ∧ d.js = e.js := DD.same

theorem Y_sameSlot (p q : OX) (hl : p.t.lim 1000000000) :
    Ct Tryz.prog 132 [.agg #[.int .i64 p.t.seq, .slice p.x.a0 p.t.cells.length p.x.c0, .bool p.t.whole], .agg #[.int .i64 q.t.seq, .slice q.x.a0 q.t.cells.length q.x.c0, .bool q.t.whole]] [] (fun w => SeesA w (rdsO p) ∧ SeesA w (rdsO q)) (fun v A' => v = .bool (decide (p.t = q.t)) ∧ A' = []) := by
  refine Ct.intro Tryz.func132 rfl Tryz.ntmps132 (lb rfl) fun w0 hpre => ?_
  have hs_1 := seesO hpre.1
  have hs_2 := seesO hpre.2
  have hl0 := hl.l0
  refine jC <| jF ?_
  refine jH rfl (kG (cs := [iv p.t.seq, .slice p.x.a0 p.t.cells.length p.x.c0, .bool p.t.whole]) rfl rfl) ?_
  rintro _ _ ⟨b_3, rfl, rfl⟩
  refine jH rfl (kG (cs := [iv q.t.seq, .slice q.x.a0 q.t.cells.length q.x.c0, .bool q.t.whole]) rfl rfl) ?_
  rintro _ _ ⟨b_4, rfl, rfl⟩
  refine jA (jG (v := .bool false) rfl) <| jE <| jB <| jC <| jF <| jA (jQ fo60_0 rfl) <| jK (jZ 1 (v := iv p.t.seq) rfl rfl kq rfl) <| jA (jQ fo60_0 rfl) <| jK (jZ 0 (v := iv q.t.seq) rfl rfl kq rfl) <| jA (kO rfl rfl) ?_
  refine jA (jD (v := .bool (decide (p.t.seq = q.t.seq))) rfl) ?_
  by_cases h_5 : p.t.seq = q.t.seq
  · refine jM rfl rfl rfl (cB (dT h_5)) (jP (jU (jQ fo60_1 rfl))) ?_
    rintro _ _ ⟨rfl, rfl⟩
    refine jM rfl rfl rfl (cB (dT h_5)) (jP (jZ 1 (v := .slice p.x.a0 p.t.cells.length p.x.c0) rfl rfl kz rfl)) ?_
    rintro _ _ ⟨rfl, rfl⟩
    refine jM rfl rfl rfl (cB (dT h_5)) (jP (jU (jQ fo60_1 rfl))) ?_
    rintro _ _ ⟨rfl, rfl⟩
    refine jM rfl rfl rfl (cB (dT h_5)) (jP (jZ 0 (v := .slice q.x.a0 q.t.cells.length q.x.c0) rfl rfl kz rfl)) ?_
    rintro _ _ ⟨rfl, rfl⟩
    refine jM rfl rfl rfl (cB (dT h_5)) (jI [] Tryz.call34 rfl (C_sameCells p.x.a0 q.x.a0 p.x.c0 q.x.c0 p.t.cells q.t.cells (by omega)) rfl (fun w hw => ⟨hw.seeOut_ hs_1 nM, hw.seeOut_ hs_2 nM⟩)) ?_
    rintro _ _ ⟨_, ⟨rfl, rfl⟩, rfl⟩
    refine jA (jh (v := .bool (decide (p.t.cells = q.t.cells))) (cB (dT h_5)) rfl) <| jA (jD (v := .bool (decide (p.t.cells = q.t.cells))) rfl) ?_
    by_cases h_6 : p.t.cells = q.t.cells
    · refine jM rfl rfl rfl (cB (dT h_6)) (jP (jU (jQ fo60_2 rfl))) ?_
      rintro _ _ ⟨rfl, rfl⟩
      refine jM rfl rfl rfl (cB (dT h_6)) (jP (jZ 1 (v := .bool p.t.whole) rfl rfl gI rfl)) ?_
      rintro _ _ ⟨rfl, rfl⟩
      refine jM rfl rfl rfl (cB (dT h_6)) (jP (jU (jQ fo60_2 rfl))) ?_
      rintro _ _ ⟨rfl, rfl⟩
      refine jM rfl rfl rfl (cB (dT h_6)) (jP (jZ 0 (v := .bool q.t.whole) rfl rfl gI rfl)) ?_
      rintro _ _ ⟨rfl, rfl⟩
      refine jM rfl rfl rfl (cB (dT h_6)) (jP (jU (PO.eqlB gJ rfl rfl))) ?_
      rintro _ _ ⟨rfl, rfl⟩
      refine jA (jh (v := .bool (decide (p.t.whole = q.t.whole))) (cB (dT h_6)) rfl) <| jA (jG (v := .bool (decide (p.t.whole = q.t.whole))) rfl) <| jE <| jB <| jN <| jV (.inl rfl) rfl (jJ (v := .bool (decide (p.t.whole = q.t.whole))) rfl) (List.nil_sublist _) ?_
      refine ⟨cB (decide_eq_decide.2 ?_), rfl⟩
      rw [sameO]
      simp_all
    refine jS (b := false) rfl rfl rfl (cB (dF h_6)) <| jS (b := false) rfl rfl rfl (cB (dF h_6)) <| jS (b := false) rfl rfl rfl (cB (dF h_6)) <| jS (b := false) rfl rfl rfl (cB (dF h_6)) <| jS (b := false) rfl rfl rfl (cB (dF h_6)) <| jA (ji (v := .bool false) (cB (dF h_6)) rfl) <| jA (jG (v := .bool false) rfl) <| jE <| jB <| jN ?_
    refine jV (.inl rfl) rfl (jJ (v := .bool false) rfl) (List.nil_sublist _) ?_
    refine ⟨cB (dF (fun h_ => ?_)).symm, rfl⟩
    have h2_ := sameO.1 h_
    simp_all
  refine jS (b := false) rfl rfl rfl (cB (dF h_5)) <| jS (b := false) rfl rfl rfl (cB (dF h_5)) <| jS (b := false) rfl rfl rfl (cB (dF h_5)) <| jS (b := false) rfl rfl rfl (cB (dF h_5)) <| jS (b := false) rfl rfl rfl (cB (dF h_5)) <| jA (ji (v := .bool false) (cB (dF h_5)) rfl) <| jA (jD (v := .bool false) rfl) <| jS (b := false) rfl rfl rfl (cB rfl) <| jS (b := false) rfl rfl rfl (cB rfl) <| jS (b := false) rfl rfl rfl (cB rfl) ?_
  refine jS (b := false) rfl rfl rfl (cB rfl) <| jS (b := false) rfl rfl rfl (cB rfl) <| jA (ji (v := .bool false) (cB rfl) rfl) <| jA (jG (v := .bool false) rfl) <| jE <| jB <| jN <| jV (.inl rfl) rfl (jJ (v := .bool false) rfl) (List.nil_sublist _) ?_
  refine ⟨cB (dF (fun h_ => ?_)).symm, rfl⟩
  have h2_ := sameO.1 h_
  simp_all

theorem Y_sameSlots (a b : Option Addr) (c c' : Nat) (s t : List OX) (hn : s.length ≤ 9223372036854775807) (hl : ∀ q ∈ s, q.t.lim 1000000000) :
    Ct Tryz.prog 90 [.slice a s.length c, .slice b t.length c'] [] (fun w => SeesA w (rdsOS a c s) ∧ SeesA w (rdsOS b c' t)) (fun r A' => r = .bool (decide (s.map OX.t = t.map OX.t)) ∧ A' = []) := by
  refine Ct.intro Tryz.func90 rfl Tryz.ntmps90 (lb rfl) fun w0 hpre => ?_
  have hs_1 : Sees w0 (.slice a s.length c) 3 s.length (s.flatMap encO) := (hpre.1).head
  have hi_2 : SeesA w0 (s.flatMap rdsO) := (hpre.1).tail
  have hs_3 : Sees w0 (.slice b t.length c') 3 t.length (t.flatMap encO) := (hpre.2).head
  have hi_4 : SeesA w0 (t.flatMap rdsO) := (hpre.2).tail
  refine jC <| jF <| jA (jG (v := .bool false) rfl) <| jE <| jB <| jC <| jC <| jF <| jA (jD (v := .slice a s.length c) rfl) <| jA (jr km rfl) ?_
  refine jA (jD (v := .slice b t.length c') rfl) <| jA (jr km rfl) <| jA (kS rfl rfl) <| jE <| jB ?_
  by_cases h_5 : ((s.length : Nat) : Int) = ((t.length : Nat) : Int)
  · have hlen := h_5
    refine jR (cB (cN (dT h_5))) <| jT <| jB <| jC <| jC <| jF <| jA (jG (v := iv 0) rfl) <| jE <| jB <| jf ?_
    refine kD (fun k_ e_ L_ => ∃ j : Nat, (j ≤ s.length) ∧ ((s.take j).map OX.t = (t.take j).map OX.t) ∧ (s.length = t.length) ∧ e_ 0 = .slice a s.length c ∧ e_ 1 = .slice b t.length c' ∧ e_ 5 = nv j ∧ L_ = [] ∧ k_ = s.length - j) _ ⟨0, by omega, rfl, by omega, rfl, rfl, rfl, rfl, rfl⟩ ?_
    rintro _ e_6 _ ⟨j, hj, hE, hln, he_7, he_8, he_9, rfl, rfl⟩
    refine jC <| jC <| jF <| jA (jD (v := nv j) he_9) <| jA (jD (v := .slice a s.length c) he_7) <| jA (jr km rfl) <| jA (jl rfl rfl) <| jE <| jB ?_
    by_cases h_10 : ((j : Nat) : Int) < ((s.length : Nat) : Int)
    · have hlt : j < s.length := by omega
      refine jW (cB (dT h_10)) <| jT <| jB <| jC <| jf <| jC <| kJ [] 1000 mixed (by simp) <| jL 0 rfl (jD (v := .slice a s.length c) he_7) <| jL 1 rfl (jD (v := nv j) he_9) ?_
      obtain ⟨hr_11, hr_11b, -⟩ := sees_some hs_1 (by omega)
      refine jL 2 rfl (jk (i := j) km kj hr_11 hr_11b rfl rfl (by omega)) ?_
      have hi_12 := SeesA.elem hi_2 o0 (show j < s.length by omega)
      have hs_13 := seesO hi_12
      refine jw 3 rfl (kX (vs := [iv ((s.getD j o0).t.seq), .slice ((s.getD j o0).x.a0) ((s.getD j o0).t.cells.length) ((s.getD j o0).x.c0), .bool ((s.getD j o0).t.whole)]) hs_1 nM rfl gB kj (flat_take encO_len o0 s j (by omega)) rfl (by decide)) <| jL 4 rfl (jD (v := .slice b t.length c') he_8) <| jL 5 rfl (jD (v := nv j) he_9) ?_
      obtain ⟨hr_14, hr_14b, -⟩ := sees_some hs_3 (by omega)
      refine jL 6 rfl (jk (i := j) km kj hr_14 hr_14b rfl rfl (by omega)) ?_
      have hi_15 := SeesA.elem hi_4 o0 (show j < t.length by omega)
      have hs_16 := seesO hi_15
      refine jw 7 rfl (kX (vs := [iv ((t.getD j o0).t.seq), .slice ((t.getD j o0).x.a0) ((t.getD j o0).t.cells.length) ((t.getD j o0).x.c0), .bool ((t.getD j o0).t.whole)]) hs_3 nM rfl gB kj (flat_take encO_len o0 t j (by omega)) rfl (by decide)) <| jj (i := 8) ?_
      refine jz rfl rfl (jI [] Tryz.call132 rfl (Y_sameSlot (s.getD j o0) (t.getD j o0) (hl _ (getD_mem (by omega)))) rfl (fun w hw => ⟨hw.seeOutA hi_12 nMA, hw.seeOutA hi_15 nMA⟩)) ?_
      rintro _ _ ⟨_, ⟨rfl, rfl⟩, rfl⟩
      refine ⟨(fun _ h => by cases h), ?_⟩
      refine jL 9 rfl (jp rfl) <| kI (by kernel_rfl) <| jB ?_
      by_cases h_17 : (s.getD j o0).t = (t.getD j o0).t
      · have heq := h_17
        refine jR (cB (cN (dT h_17))) <| jT <| jm <| jB <| jF <| jA (jD (v := nv j) he_9) <| jA (jc (c := ((j + 1 : Nat) : Int)) rfl rfl (wr (by omega))) <| jA (jG (v := iv ((j + 1 : Nat) : Int)) rfl) <| jE ?_
        refine jq (s.length - (j + 1)) (by omega) ⟨j + 1, by omega, take_succM_eq o0 hE hlt hln heq, hln, he_7, he_8, rfl, rfl, rfl⟩
      have hne := h_17
      refine jW (cB (cN (dF h_17))) <| jC <| jF <| jA (jG (v := .bool false) rfl) <| jE <| jB <| jN <| jv <| jX <| jX ?_
      refine jv <| jX <| jV (.inl rfl) rfl (jJ (v := .bool false) rfl) (List.nil_sublist _) ?_
      refine ⟨?_, rfl⟩
      rw [dF (fun h => hne (getM_eq o0 h hlt hln))]
    refine jR (cB (dF h_10)) <| jx <| jb <| jb <| jy <| jB <| jC <| jF <| jA (jG (v := .bool true) rfl) <| jE ?_
    refine jB <| jN <| jV (.inl rfl) rfl (jJ (v := .bool true) rfl) (List.nil_sublist _) ?_
    refine ⟨?_, rfl⟩
    rw [dT (take_allM_eq hE (by omega) (by omega))]
  have hlen := h_5
  refine jW (cB (cN (dF h_5))) <| jC <| jF <| jA (jG (v := .bool false) rfl) <| jE <| jB <| jN <| jX <| jV (.inl rfl) rfl (jJ (v := .bool false) rfl) (List.nil_sublist _) ?_
  refine ⟨?_, rfl⟩
  rw [dF (fun h => by have h2 := congrArg List.length h; rw [List.length_map, List.length_map] at h2; omega)]

theorem Y_sameDisk (d e : DX) (hl : d.dat.lim 1000000000) :
    Ct Tryz.prog 39 [.agg #[.slice d.a d.l.length d.c, str d.jt, .int .i64 d.js], .agg #[.slice e.a e.l.length e.c, str e.jt, .int .i64 e.js]] [] (fun w => SeesA w (rdsD d) ∧ SeesA w (rdsD e)) (fun v A' => v = .bool (decide (d.dat = e.dat)) ∧ A' = []) := by
  refine Ct.intro Tryz.func39 rfl Tryz.ntmps39 (lb rfl) fun w0 hpre => ?_
  have hs_1 : Sees w0 (.slice d.a d.l.length d.c) 3 d.l.length (d.l.flatMap encO) := (hpre.1).head
  have hi_2 : SeesA w0 (d.l.flatMap rdsO) := (hpre.1).tail
  have hs_3 : Sees w0 (.slice e.a e.l.length e.c) 3 e.l.length (e.l.flatMap encO) := (hpre.2).head
  have hi_4 : SeesA w0 (e.l.flatMap rdsO) := (hpre.2).tail
  have hlm : d.l.length ≤ 1000000000 ∧ ∀ q ∈ d.l, q.t.lim 1000000000 := ⟨by have := hl.l0; simpa only [DX.dat, List.length_map] using this, fun q hq => hl.l1 _ (List.mem_map_of_mem hq)⟩
  have hlm0 := hlm.1
  refine jC <| jF ?_
  refine jH rfl (kG (cs := [.slice d.a d.l.length d.c, str d.jt, iv d.js]) rfl rfl) ?_
  rintro _ _ ⟨b_5, rfl, rfl⟩
  refine jH rfl (kG (cs := [.slice e.a e.l.length e.c, str e.jt, iv e.js]) rfl rfl) ?_
  rintro _ _ ⟨b_6, rfl, rfl⟩
  refine jA (jG (v := .bool false) rfl) <| jE <| jB <| jC <| jF <| jA (jQ fo31_0 rfl) <| jK (jZ 1 (v := .slice d.a d.l.length d.c) rfl rfl ks rfl) <| jA (jQ fo31_0 rfl) <| jK (jZ 0 (v := .slice e.a e.l.length e.c) rfl rfl ks rfl) ?_
  refine jH rfl (jI [] Tryz.call90 rfl (Y_sameSlots d.a e.a d.c e.c d.l e.l (by omega) hlm.2) rfl (fun w hw => ⟨SeesA.cons (hw.seeOut_ hs_1 nM) (hw.seeOutA hi_2 nMA), SeesA.cons (hw.seeOut_ hs_3 nM) (hw.seeOutA hi_4 nMA)⟩)) ?_
  rintro _ _ ⟨_, ⟨rfl, rfl⟩, rfl⟩
  refine jA (jD (v := .bool (decide (d.l.map OX.t = e.l.map OX.t))) rfl) ?_
  by_cases h_7 : d.l.map OX.t = e.l.map OX.t
  · refine jM rfl rfl rfl (cB (dT h_7)) (jP (jU (jQ fo31_1 rfl))) ?_
    rintro _ _ ⟨rfl, rfl⟩
    refine jM rfl rfl rfl (cB (dT h_7)) (jP (jO 1 (vs := [str d.jt, iv d.js]) rfl rfl kp kl rfl rfl)) ?_
    rintro _ _ ⟨rfl, rfl⟩
    refine jM rfl rfl rfl (cB (dT h_7)) (jP (jU (jQ fo31_1 rfl))) ?_
    rintro _ _ ⟨rfl, rfl⟩
    refine jM rfl rfl rfl (cB (dT h_7)) (jP (jO 0 (vs := [str e.jt, iv e.js]) rfl rfl kp kl rfl rfl)) ?_
    rintro _ _ ⟨rfl, rfl⟩
    refine jM rfl rfl rfl (cB (dT h_7)) (jP (jU (PO.eqlJ rfl rfl))) ?_
    rintro _ _ ⟨rfl, rfl⟩
    refine jA (jh (v := .bool (decide (d.jt = e.jt ∧ d.js = e.js))) (cB (dT h_7)) rfl) <| jA (jG (v := .bool (decide (d.jt = e.jt ∧ d.js = e.js))) rfl) <| jE <| jB <| jN <| jV (.inl rfl) rfl (jJ (v := .bool (decide (d.jt = e.jt ∧ d.js = e.js))) rfl) (List.nil_sublist _) ?_
    refine ⟨cB (decide_eq_decide.2 ?_), rfl⟩
    rw [sameDX]
    simp_all
  refine jS (b := false) rfl rfl rfl (cB (dF h_7)) <| jS (b := false) rfl rfl rfl (cB (dF h_7)) <| jS (b := false) rfl rfl rfl (cB (dF h_7)) <| jS (b := false) rfl rfl rfl (cB (dF h_7)) <| jS (b := false) rfl rfl rfl (cB (dF h_7)) <| jA (ji (v := .bool false) (cB (dF h_7)) rfl) <| jA (jG (v := .bool false) rfl) <| jE <| jB <| jN ?_
  refine jV (.inl rfl) rfl (jJ (v := .bool false) rfl) (List.nil_sublist _) ?_
  refine ⟨cB (dF (fun h_ => ?_)).symm, rfl⟩
  have h2_ := sameDX.1 h_
  simp_all

end Go.Proofs.YtjncpgcccgdeiaaGreatDoor

set_option linter.unusedSimpArgs false
set_option linter.unusedVariables false
set_option linter.unnecessarySimpa false
namespace Go.Proofs.YtjncpgcccgdeiaaGreatDoor
open Go Go.RowKit
@[reducible] def cb (b : Nat) (a : Option Addr) (c : Nat) (l : Str) (p : Nat) (s : Int) : Res := bk b 133 [.slice a l.length c, .int .i64 ((p : Nat) : Int), .int .i64 s]
/-- The bytes that a cursor goes over can be read, and none of these resources holds them. -/
def seesC (w : World) (a : Option Addr) (c : Nat) (l : Str) (A : List Res) : Prop := Sees w (.slice a l.length c) 1 l.length (l.map encB) ∧ ∀ i, (Value.slice a l.length c).ownBlock = some i → i ∉ idsOf A
theorem atB {l : Str} {i : Nat} (h : i < l.length) : (l.map encB)[i * 1]? = some (.int .u8 (((l.getD i 0).toNat : Nat) : Int)) := by simp [h, encB]
theorem and_bnd (x m : Int) (h0 : 0 ≤ m) (h1 : m < 9223372036854775808) : 0 ≤ bits .and .i64 x m ∧ bits .and .i64 x m ≤ m := by
  have hm : (BitVec.ofInt 64 m).toNat = m.toNat := by
    rw [BitVec.toNat_ofInt]
    congr 1
    omega
  have hle : ((BitVec.ofInt 64 x) &&& (BitVec.ofInt 64 m)).toNat ≤ m.toNat := by
    rw [BitVec.toNat_and, hm]
    exact Nat.and_le_right
  have hw : bits .and .i64 x m = ((((BitVec.ofInt 64 x) &&& (BitVec.ofInt 64 m)).toNat : Nat) : Int) := by
    unfold bits
    show IntKind.i64.wrap ((((BitVec.ofInt 64 x) &&& (BitVec.ofInt 64 m)).toNat : Nat) : Int) = _
    exact wr (by omega)
  rw [hw]
  omega
theorem St.apart {w0 w : World} {D : List Nat} {L A : List Res} {v : Value} {k m : Nat} {vs : List Value} (hw : St w0 D L w) (hs : Sees w0 v k m vs) (hD : ∀ b, v.ownBlock = some b → b ∉ D) (hA : ∀ r ∈ A, r ∈ L) :
    ∀ j, v.ownBlock = some j → j ∉ idsOf A := fun j hj hin => by
  obtain ⟨r, hr, hjr⟩ := mem_idsOf.1 hin
  rcases hs.2 with ⟨rfl, _⟩ | ⟨b, o, cap, hv, h1, h2, h3, h4⟩
  · simp [Value.ownBlock] at hj
  · rcases hw.fresh j (mem_idsOf.2 ⟨r, hA r hr, hjr⟩) with h | h
    · exact hD j hj h
    · subst hv
      simp [Value.ownBlock] at hj
      omega
theorem mkB_flat (n : Nat) : (List.replicate n [Value.int .u8 0]).flatten = (List.replicate n (0 : UInt8)).map encB := by
  induction n with
  | zero => rfl
  | succ n ih => rw [List.replicate_succ, List.flatten_cons, ih, List.replicate_succ]; rfl
/-- What PutKey keeps. -/
def okC' (n k : Nat) (s : List Cell) : Prop := s.length ≤ n ∧ ∀ c ∈ s, c.1.length ≤ k ∧ c.2.length ≤ k
theorem okC'.put {n k : Nat} {s : List Cell} (h : okC' n k s) (key val : Str) (h1 : key.length ≤ k) (h2 : val.length ≤ k) : okC' (n + 1) k (putKey s key val) := by
  refine ⟨Nat.le_trans (putKey_len s key val) (by have := h.1; omega), fun c hc => ?_⟩
  rcases putKey_mem (s := s) hc with hc | ⟨rfl, _, _⟩
  · exact h.2 c hc
  · exact ⟨h1, h2⟩
theorem okC'.mono {n n' k : Nat} {s : List Cell} (h : okC' n k s) (hn : n ≤ n') : okC' n' k s := ⟨Nat.le_trans h.1 hn, h.2⟩
attribute [local irreducible] JL JC JQ JO LO PO JA JX Ct

theorem D_byte (qb : Nat) (qa : Option Addr) (qc : Nat) (ql : Str) (qp : Nat) (qs : Int) (hql : ql.length ≤ 1048576) (hqp : qp ≤ ql.length)  :
    Ct Tryz.prog 119 [.pointer (some ⟨qb, 0, none⟩)] [cb qb qa qc ql qp qs] (fun w => seesC w qa qc ql [cb qb qa qc ql qp qs]) (fun v A' => ∃ qp' qs' r0, qp' ≤ ql.length ∧ (r0 ≤ 255) ∧ v = .int .i64 ((r0 : Nat) : Int) ∧ A' = [cb qb qa qc ql qp' qs']) := by
  refine Ct.intro Tryz.func119 rfl Tryz.ntmps119 (lb rfl) fun w0 hpre => ?_
  have hs_qa : Sees w0 _ _ _ _ := hpre.1
  refine jC <| jF <| jA (jG (v := iv 0) rfl) <| jE <| jB <| jC <| jF <| jA (jD (v := .pointer (some ⟨qb, 0, none⟩)) rfl) <| jA (jD (v := .pointer (some ⟨qb, 0, none⟩)) rfl) <| jA (PO.nilCheck rfl) ?_
  refine jA (jQ fo133_2 rfl) <| jK (jZ 0 (v := iv qs) rfl rfl kq rfl) <| jA (PO.mulW rfl rfl) <| jA (PO.addW rfl rfl) <| jA (PO.nilCheck rfl) <| jA (jQ fo133_2 rfl) ?_
  refine jH rfl (ja 0 (vs := [iv (IntKind.i64.wrap ((IntKind.i64.wrap (qs * 6364136223846793005)) + 1442695040888963407))]) (cs' := [.slice qa ql.length qc, nv qp, iv (IntKind.i64.wrap ((IntKind.i64.wrap (qs * 6364136223846793005)) + 1442695040888963407))]) rfl rfl rfl rfl gA rfl rfl (lb rfl) rfl) ?_
  rintro _ _ rfl
  refine jE <| jB <| jC <| kJ [cb qb qa qc ql qp (IntKind.i64.wrap ((IntKind.i64.wrap (qs * 6364136223846793005)) + 1442695040888963407))] 12 mixed (by simp) <| jL 0 rfl (jD (v := .pointer (some ⟨qb, 0, none⟩)) rfl) <| jL 1 rfl (PO.nilCheck rfl) <| jL 2 rfl (jQ fo133_2 rfl) <| jw 3 rfl (jZ 0 (v := iv (IntKind.i64.wrap ((IntKind.i64.wrap (qs * 6364136223846793005)) + 1442695040888963407))) rfl rfl kq rfl) <| jL 4 rfl (PO.shr rfl rfl (by decide) (by decide)) <| jL 5 rfl (jD (v := .pointer (some ⟨qb, 0, none⟩)) rfl) ?_
  refine jL 6 rfl (PO.nilCheck rfl) <| jL 7 rfl (jQ fo133_2 rfl) <| jw 8 rfl (jZ 0 (v := iv (IntKind.i64.wrap ((IntKind.i64.wrap (qs * 6364136223846793005)) + 1442695040888963407))) rfl rfl kq rfl) <| jL 9 rfl (PO.shr rfl rfl (by decide) (by decide)) <| jL 10 rfl (PO.bits (by simp) rfl rfl) <| jL 11 rfl (PO.bits (by simp) rfl rfl) <| jL 12 rfl (jG (v := iv (Go.bits .and .i64 (Go.bits .xor .i64 ((IntKind.i64.wrap ((IntKind.i64.wrap (qs * 6364136223846793005)) + 1442695040888963407)) / 2 ^ (33 : Int).toNat) ((IntKind.i64.wrap ((IntKind.i64.wrap (qs * 6364136223846793005)) + 1442695040888963407)) / 2 ^ (45 : Int).toNat)) 255)) rfl) <| kI (by kernel_rfl) <| jB <| jC ?_
  refine jC <| kJ [cb qb qa qc ql qp (IntKind.i64.wrap ((IntKind.i64.wrap (qs * 6364136223846793005)) + 1442695040888963407))] 1000 mixed (by simp) <| jL 0 rfl (jD (v := .pointer (some ⟨qb, 0, none⟩)) rfl) <| jL 1 rfl (PO.nilCheck rfl) <| jL 2 rfl (jQ fo133_1 rfl) <| jw 3 rfl (jZ 0 (v := nv qp) rfl rfl kq rfl) <| jL 4 rfl (jD (v := .pointer (some ⟨qb, 0, none⟩)) rfl) <| jL 5 rfl (PO.nilCheck rfl) <| jL 6 rfl (jQ fo133_0 rfl) <| jw 7 rfl (jZ 0 (v := .slice qa ql.length qc) rfl rfl Tryz.isAgg39 rfl) ?_
  refine jL 8 rfl (jr kr rfl) <| jL 9 rfl (jl rfl rfl) <| kI (by kernel_rfl) <| jB ?_
  by_cases h_1 : ((qp : Nat) : Int) < ((ql.length : Nat) : Int)
  · have hu8 := UInt8.toNat_lt (ql.getD qp 0)
    refine jW (cB (dT h_1)) <| jC <| kJ [cb qb qa qc ql qp (IntKind.i64.wrap ((IntKind.i64.wrap (qs * 6364136223846793005)) + 1442695040888963407))] 14 mixed (by simp) <| jL 0 rfl (jD (v := iv (Go.bits .and .i64 (Go.bits .xor .i64 ((IntKind.i64.wrap ((IntKind.i64.wrap (qs * 6364136223846793005)) + 1442695040888963407)) / 2 ^ (33 : Int).toNat) ((IntKind.i64.wrap ((IntKind.i64.wrap (qs * 6364136223846793005)) + 1442695040888963407)) / 2 ^ (45 : Int).toNat)) 255)) rfl) <| jL 1 rfl (jD (v := .pointer (some ⟨qb, 0, none⟩)) rfl) <| jL 2 rfl (PO.nilCheck rfl) <| jL 3 rfl (jQ fo133_0 rfl) <| jw 4 rfl (jZ 0 (v := .slice qa ql.length qc) rfl rfl Tryz.isAgg39 rfl) <| jL 5 rfl (jD (v := .pointer (some ⟨qb, 0, none⟩)) rfl) <| jL 6 rfl (PO.nilCheck rfl) ?_
    refine jL 7 rfl (jQ fo133_1 rfl) <| jw 8 rfl (jZ 0 (v := nv qp) rfl rfl kq rfl) ?_
    obtain ⟨hr_2, hr_2b, -⟩ := sees_some hs_qa (by omega)
    refine jL 9 rfl (jk (i := qp) kr gH hr_2 hr_2b rfl rfl (by omega)) <| jw 10 rfl (kY (v := .int .u8 (((ql.getD qp 0).toNat : Nat) : Int)) hs_qa (hpre.2) rfl Tryz.isAgg5 (atB (by omega))) <| jL 11 rfl (PO.convI (c := (((ql.getD qp 0).toNat : Nat) : Int)) kv gC rfl (wr (by omega))) <| jL 12 rfl (PO.addW rfl rfl) <| jL 13 rfl (PO.bits (by simp) rfl rfl) <| jL 14 rfl (jG (v := iv (Go.bits .and .i64 (IntKind.i64.wrap ((Go.bits .and .i64 (Go.bits .xor .i64 ((IntKind.i64.wrap ((IntKind.i64.wrap (qs * 6364136223846793005)) + 1442695040888963407)) / 2 ^ (33 : Int).toNat) ((IntKind.i64.wrap ((IntKind.i64.wrap (qs * 6364136223846793005)) + 1442695040888963407)) / 2 ^ (45 : Int).toNat)) 255) + (((ql.getD qp 0).toNat : Nat) : Int))) 255)) rfl) <| kI (by kernel_rfl) <| jB <| jF <| jA (jD (v := .pointer (some ⟨qb, 0, none⟩)) rfl) ?_
    refine jA (jD (v := .pointer (some ⟨qb, 0, none⟩)) rfl) <| jA (PO.nilCheck rfl) <| jA (jQ fo133_1 rfl) <| jK (jZ 0 (v := nv qp) rfl rfl kq rfl) <| jA (jc (c := ((qp + 1 : Nat) : Int)) rfl rfl (wr (by omega))) <| jA (PO.nilCheck rfl) <| jA (jQ fo133_1 rfl) ?_
    refine jH rfl (ja 0 (vs := [iv ((qp + 1 : Nat) : Int)]) (cs' := [.slice qa ql.length qc, iv ((qp + 1 : Nat) : Int), iv (IntKind.i64.wrap ((IntKind.i64.wrap (qs * 6364136223846793005)) + 1442695040888963407))]) rfl rfl rfl rfl gA rfl rfl (lb rfl) rfl) ?_
    rintro _ _ rfl
    refine jE <| jB <| jC <| jF <| jA (jD (v := iv (Go.bits .and .i64 (IntKind.i64.wrap ((Go.bits .and .i64 (Go.bits .xor .i64 ((IntKind.i64.wrap ((IntKind.i64.wrap (qs * 6364136223846793005)) + 1442695040888963407)) / 2 ^ (33 : Int).toNat) ((IntKind.i64.wrap ((IntKind.i64.wrap (qs * 6364136223846793005)) + 1442695040888963407)) / 2 ^ (45 : Int).toNat)) 255) + (((ql.getD qp 0).toNat : Nat) : Int))) 255)) rfl) <| jA (jG (v := iv (Go.bits .and .i64 (IntKind.i64.wrap ((Go.bits .and .i64 (Go.bits .xor .i64 ((IntKind.i64.wrap ((IntKind.i64.wrap (qs * 6364136223846793005)) + 1442695040888963407)) / 2 ^ (33 : Int).toNat) ((IntKind.i64.wrap ((IntKind.i64.wrap (qs * 6364136223846793005)) + 1442695040888963407)) / 2 ^ (45 : Int).toNat)) 255) + (((ql.getD qp 0).toNat : Nat) : Int))) 255)) rfl) <| jE <| jB <| jN <| jV (.inl rfl) rfl (jJ (v := iv (Go.bits .and .i64 (IntKind.i64.wrap ((Go.bits .and .i64 (Go.bits .xor .i64 ((IntKind.i64.wrap ((IntKind.i64.wrap (qs * 6364136223846793005)) + 1442695040888963407)) / 2 ^ (33 : Int).toNat) ((IntKind.i64.wrap ((IntKind.i64.wrap (qs * 6364136223846793005)) + 1442695040888963407)) / 2 ^ (45 : Int).toNat)) 255) + (((ql.getD qp 0).toNat : Nat) : Int))) 255)) rfl) (List.Sublist.refl _) ?_
    have hbb := and_bnd (IntKind.i64.wrap ((Go.bits .and .i64 (Go.bits .xor .i64 ((IntKind.i64.wrap ((IntKind.i64.wrap (qs * 6364136223846793005)) + 1442695040888963407)) / 2 ^ (33 : Int).toNat) ((IntKind.i64.wrap ((IntKind.i64.wrap (qs * 6364136223846793005)) + 1442695040888963407)) / 2 ^ (45 : Int).toNat)) 255) + (((ql.getD qp 0).toNat : Nat) : Int))) 255 (by decide) (by decide)
    obtain ⟨r0, hr0⟩ : ∃ r0 : Nat, Go.bits .and .i64 (IntKind.i64.wrap ((Go.bits .and .i64 (Go.bits .xor .i64 ((IntKind.i64.wrap ((IntKind.i64.wrap (qs * 6364136223846793005)) + 1442695040888963407)) / 2 ^ (33 : Int).toNat) ((IntKind.i64.wrap ((IntKind.i64.wrap (qs * 6364136223846793005)) + 1442695040888963407)) / 2 ^ (45 : Int).toNat)) 255) + (((ql.getD qp 0).toNat : Nat) : Int))) 255 = ((r0 : Nat) : Int) := ⟨(Go.bits .and .i64 (IntKind.i64.wrap ((Go.bits .and .i64 (Go.bits .xor .i64 ((IntKind.i64.wrap ((IntKind.i64.wrap (qs * 6364136223846793005)) + 1442695040888963407)) / 2 ^ (33 : Int).toNat) ((IntKind.i64.wrap ((IntKind.i64.wrap (qs * 6364136223846793005)) + 1442695040888963407)) / 2 ^ (45 : Int).toNat)) 255) + (((ql.getD qp 0).toNat : Nat) : Int))) 255).toNat, by omega⟩
    rw [hr0] at hbb
    exact ⟨(qp + 1), (IntKind.i64.wrap ((IntKind.i64.wrap (qs * 6364136223846793005)) + 1442695040888963407)), r0, by omega, by omega, congrArg (Value.int .i64) hr0, rfl⟩
  refine jR (cB (dF h_1)) <| jT <| jB <| jC <| jF <| jA (jD (v := iv (Go.bits .and .i64 (Go.bits .xor .i64 ((IntKind.i64.wrap ((IntKind.i64.wrap (qs * 6364136223846793005)) + 1442695040888963407)) / 2 ^ (33 : Int).toNat) ((IntKind.i64.wrap ((IntKind.i64.wrap (qs * 6364136223846793005)) + 1442695040888963407)) / 2 ^ (45 : Int).toNat)) 255)) rfl) <| jA (jG (v := iv (Go.bits .and .i64 (Go.bits .xor .i64 ((IntKind.i64.wrap ((IntKind.i64.wrap (qs * 6364136223846793005)) + 1442695040888963407)) / 2 ^ (33 : Int).toNat) ((IntKind.i64.wrap ((IntKind.i64.wrap (qs * 6364136223846793005)) + 1442695040888963407)) / 2 ^ (45 : Int).toNat)) 255)) rfl) <| jE <| jB <| jN ?_
  refine jV (.inl rfl) rfl (jJ (v := iv (Go.bits .and .i64 (Go.bits .xor .i64 ((IntKind.i64.wrap ((IntKind.i64.wrap (qs * 6364136223846793005)) + 1442695040888963407)) / 2 ^ (33 : Int).toNat) ((IntKind.i64.wrap ((IntKind.i64.wrap (qs * 6364136223846793005)) + 1442695040888963407)) / 2 ^ (45 : Int).toNat)) 255)) rfl) (List.Sublist.refl _) ?_
  have hbb := and_bnd (Go.bits .xor .i64 ((IntKind.i64.wrap ((IntKind.i64.wrap (qs * 6364136223846793005)) + 1442695040888963407)) / 2 ^ (33 : Int).toNat) ((IntKind.i64.wrap ((IntKind.i64.wrap (qs * 6364136223846793005)) + 1442695040888963407)) / 2 ^ (45 : Int).toNat)) 255 (by decide) (by decide)
  obtain ⟨r0, hr0⟩ : ∃ r0 : Nat, Go.bits .and .i64 (Go.bits .xor .i64 ((IntKind.i64.wrap ((IntKind.i64.wrap (qs * 6364136223846793005)) + 1442695040888963407)) / 2 ^ (33 : Int).toNat) ((IntKind.i64.wrap ((IntKind.i64.wrap (qs * 6364136223846793005)) + 1442695040888963407)) / 2 ^ (45 : Int).toNat)) 255 = ((r0 : Nat) : Int) := ⟨(Go.bits .and .i64 (Go.bits .xor .i64 ((IntKind.i64.wrap ((IntKind.i64.wrap (qs * 6364136223846793005)) + 1442695040888963407)) / 2 ^ (33 : Int).toNat) ((IntKind.i64.wrap ((IntKind.i64.wrap (qs * 6364136223846793005)) + 1442695040888963407)) / 2 ^ (45 : Int).toNat)) 255).toNat, by omega⟩
  rw [hr0] at hbb
  exact ⟨qp, (IntKind.i64.wrap ((IntKind.i64.wrap (qs * 6364136223846793005)) + 1442695040888963407)), r0, by omega, by omega, congrArg (Value.int .i64) hr0, rfl⟩

theorem D_below (qb : Nat) (qa : Option Addr) (qc : Nat) (ql : Str) (qp : Nat) (qs : Int) (hql : ql.length ≤ 1048576) (hqp : qp ≤ ql.length) (k : Int) (hk : -9223372036854775808 ≤ k ∧ k ≤ 9223372036854775807) :
    Ct Tryz.prog 73 [.pointer (some ⟨qb, 0, none⟩), .int .i64 k] [cb qb qa qc ql qp qs] (fun w => seesC w qa qc ql [cb qb qa qc ql qp qs]) (fun v A' => ∃ qp' qs' r0, qp' ≤ ql.length ∧ (((r0 : Nat) : Int) < k ∨ r0 = 0) ∧ v = .int .i64 ((r0 : Nat) : Int) ∧ A' = [cb qb qa qc ql qp' qs']) := by
  refine Ct.intro Tryz.func73 rfl Tryz.ntmps73 (lb rfl) fun w0 hpre => ?_
  have hs_qa : Sees w0 _ _ _ _ := hpre.1
  refine jC <| jF <| jA (jG (v := iv 0) rfl) <| jE <| jB <| jC <| jC <| jF <| jA (jD (v := iv k) rfl) <| jA (PO.leq rfl rfl) ?_
  refine jE <| jB ?_
  by_cases h_1 : k ≤ 0
  · refine jW (cB (dT h_1)) <| jC <| jF <| jA (jG (v := iv 0) rfl) <| jE <| jB <| jN <| jX <| jV (.inl rfl) rfl (jJ (v := iv 0) rfl) (List.Sublist.refl _) ?_
    exact ⟨qp, qs, 0, (by omega), (.inr rfl), rfl, rfl⟩
  obtain ⟨kk, hkk⟩ : ∃ kk : Nat, k = ((kk : Nat) : Int) := ⟨k.toNat, by omega⟩
  refine jR (cB (dF h_1)) <| jT <| jB <| jC <| jC <| jF <| jA (jD (v := nv kk) (congrArg (Value.int .i64) hkk)) <| jA (PO.leq rfl rfl) <| jE <| jB ?_
  by_cases h_2 : ((kk : Nat) : Int) ≤ 256
  · refine jW (cB (dT h_2)) <| jC <| jF <| jA (jD (v := .pointer (some ⟨qb, 0, none⟩)) rfl) ?_
    refine jH rfl (jI [0] Tryz.call119 rfl (D_byte qb qa qc ql qp qs (by omega) (by omega)) rfl (fun w hw => ⟨hw.seeOut_ hs_qa (hpre.2), hw.apart hs_qa (hpre.2) (by simp)⟩)) ?_
    rintro _ _ ⟨_, ⟨qp_3, qs_4, n_6, fq_5, f_7, rfl, rfl⟩, rfl⟩
    refine jA (jD (v := nv kk) (congrArg (Value.int .i64) hkk)) <| jA (PO.remN (c := ((n_6 % kk : Nat) : Int)) rfl rfl (by omega) (by omega) (by omega)) <| jA (jG (v := iv ((n_6 % kk : Nat) : Int)) rfl) <| jE <| jB <| jN <| jX <| jV (.inl rfl) rfl (jJ (v := iv ((n_6 % kk : Nat) : Int)) rfl) (List.Sublist.refl _) ?_
    exact ⟨qp_3, qs_4, (n_6 % kk), (by omega), (.inl (by have hm_ := Nat.mod_lt (n_6) (show 0 < kk by omega); omega)), rfl, rfl⟩
  refine jR (cB (dF h_2)) <| jT <| jB <| jC <| jF <| jA (jD (v := .pointer (some ⟨qb, 0, none⟩)) rfl) ?_
  refine jH rfl (jI [0] Tryz.call119 rfl (D_byte qb qa qc ql qp qs (by omega) (by omega)) rfl (fun w hw => ⟨hw.seeOut_ hs_qa (hpre.2), hw.apart hs_qa (hpre.2) (by simp)⟩)) ?_
  rintro _ _ ⟨_, ⟨qp_9, qs_10, n_12, fq_11, f_13, rfl, rfl⟩, rfl⟩
  refine jA (jG (v := nv n_12) rfl) <| jE <| jB <| jC <| jF <| jA (jD (v := .pointer (some ⟨qb, 0, none⟩)) rfl) ?_
  refine jH rfl (jI [0] Tryz.call119 rfl (D_byte qb qa qc ql qp_9 qs_10 (by omega) (by omega)) rfl (fun w hw => ⟨hw.seeOut_ hs_qa (hpre.2), hw.apart hs_qa (hpre.2) (by simp)⟩)) ?_
  rintro _ _ ⟨_, ⟨qp_15, qs_16, n_18, fq_17, f_19, rfl, rfl⟩, rfl⟩
  refine jA (jG (v := nv n_18) rfl) <| jE <| jB <| jC <| jF <| jA (jD (v := .pointer (some ⟨qb, 0, none⟩)) rfl) ?_
  refine jH rfl (jI [0] Tryz.call119 rfl (D_byte qb qa qc ql qp_15 qs_16 (by omega) (by omega)) rfl (fun w hw => ⟨hw.seeOut_ hs_qa (hpre.2), hw.apart hs_qa (hpre.2) (by simp)⟩)) ?_
  rintro _ _ ⟨_, ⟨qp_21, qs_22, n_24, fq_23, f_25, rfl, rfl⟩, rfl⟩
  refine jA (jG (v := nv n_24) rfl) <| jE <| jB <| jC <| jF <| jA (jD (v := .pointer (some ⟨qb, 0, none⟩)) rfl) ?_
  refine jH rfl (jI [0] Tryz.call119 rfl (D_byte qb qa qc ql qp_21 qs_22 (by omega) (by omega)) rfl (fun w hw => ⟨hw.seeOut_ hs_qa (hpre.2), hw.apart hs_qa (hpre.2) (by simp)⟩)) ?_
  rintro _ _ ⟨_, ⟨qp_27, qs_28, n_30, fq_29, f_31, rfl, rfl⟩, rfl⟩
  refine jA (jG (v := nv n_30) rfl) <| jE <| jB <| jC <| jF <| jA (jD (v := nv n_12) rfl) <| jA (PO.mul (c := ((n_12 * 16777216 : Nat) : Int)) rfl rfl (wr (by omega))) <| jA (jD (v := nv n_18) rfl) <| jA (PO.mul (c := ((n_18 * 65536 : Nat) : Int)) rfl rfl (wr (by omega))) <| jA (jc (c := (((n_12 * 16777216) + (n_18 * 65536) : Nat) : Int)) rfl rfl (wr (by omega))) ?_
  refine jA (jD (v := nv n_24) rfl) <| jA (PO.mul (c := ((n_24 * 256 : Nat) : Int)) rfl rfl (wr (by omega))) <| jA (jc (c := ((((n_12 * 16777216) + (n_18 * 65536)) + (n_24 * 256) : Nat) : Int)) rfl rfl (wr (by omega))) <| jA (jD (v := nv n_30) rfl) <| jA (jc (c := (((((n_12 * 16777216) + (n_18 * 65536)) + (n_24 * 256)) + n_30 : Nat) : Int)) rfl rfl (wr (by omega))) <| jA (jD (v := nv kk) (congrArg (Value.int .i64) hkk)) <| jA (PO.remN (c := ((((((n_12 * 16777216) + (n_18 * 65536)) + (n_24 * 256)) + n_30) % kk : Nat) : Int)) rfl rfl (by omega) (by omega) (by omega)) <| jA (jG (v := iv ((((((n_12 * 16777216) + (n_18 * 65536)) + (n_24 * 256)) + n_30) % kk : Nat) : Int)) rfl) <| jE <| jB ?_
  refine jN <| jV (.inl rfl) rfl (jJ (v := iv ((((((n_12 * 16777216) + (n_18 * 65536)) + (n_24 * 256)) + n_30) % kk : Nat) : Int)) rfl) (List.Sublist.refl _) ?_
  exact ⟨qp_27, qs_28, (((((n_12 * 16777216) + (n_18 * 65536)) + (n_24 * 256)) + n_30) % kk), (by omega), (.inl (by have hm_ := Nat.mod_lt (((((n_12 * 16777216) + (n_18 * 65536)) + (n_24 * 256)) + n_30)) (show 0 < kk by omega); omega)), rfl, rfl⟩

theorem D_once (qb : Nat) (qa : Option Addr) (qc : Nat) (ql : Str) (qp : Nat) (qs : Int) (hql : ql.length ≤ 1048576) (hqp : qp ≤ ql.length) (k : Int) (hk : -9223372036854775808 ≤ k ∧ k ≤ 9223372036854775807) :
    Ct Tryz.prog 99 [.pointer (some ⟨qb, 0, none⟩), .int .i64 k] [cb qb qa qc ql qp qs] (fun w => seesC w qa qc ql [cb qb qa qc ql qp qs]) (fun v A' => ∃ qp' qs' r0, qp' ≤ ql.length ∧ v = .bool r0 ∧ A' = [cb qb qa qc ql qp' qs']) := by
  refine Ct.intro Tryz.func99 rfl Tryz.ntmps99 (lb rfl) fun w0 hpre => ?_
  have hs_qa : Sees w0 _ _ _ _ := hpre.1
  refine jC <| jF <| jA (jG (v := .bool false) rfl) <| jE <| jB <| jC <| jF <| jA (jD (v := .pointer (some ⟨qb, 0, none⟩)) rfl) <| jA (jD (v := iv k) rfl) ?_
  refine jH rfl (jI [0] Tryz.call73 rfl (D_below qb qa qc ql qp qs (by omega) (by omega) k (by omega)) rfl (fun w hw => ⟨hw.seeOut_ hs_qa (hpre.2), hw.apart hs_qa (hpre.2) (by simp)⟩)) ?_
  rintro _ _ ⟨_, ⟨qp_1, qs_2, n_4, fq_3, f_5, rfl, rfl⟩, rfl⟩
  refine jA (kO rfl rfl) <| jA (jG (v := .bool (decide (((n_4 : Nat) : Int) = 0))) rfl) <| jE <| jB <| jN <| jV (.inl rfl) rfl (jJ (v := .bool (decide (((n_4 : Nat) : Int) = 0))) rfl) (List.Sublist.refl _) ?_
  exact ⟨qp_1, qs_2, (decide (((n_4 : Nat) : Int) = 0)), (by omega), rfl, rfl⟩

theorem D_pick (qb : Nat) (qa : Option Addr) (qc : Nat) (ql : Str) (qp : Nat) (qs : Int) (la : Option Addr) (lc : Nat) (l : List Str) (hql : ql.length ≤ 1048576) (hqp : qp ≤ ql.length)  (hl0 : 0 < l.length) (hl1 : l.length ≤ 1000) :
    Ct Tryz.prog 158 [.pointer (some ⟨qb, 0, none⟩), .slice la l.length lc] [cb qb qa qc ql qp qs, rS la lc l] (fun w => seesC w qa qc ql [cb qb qa qc ql qp qs, rS la lc l]) (fun v A' => ∃ qp' qs' r0, qp' ≤ ql.length ∧ (r0 ∈ l) ∧ v = str r0 ∧ A' = [cb qb qa qc ql qp' qs']) := by
  refine Ct.intro Tryz.func158 rfl Tryz.ntmps158 (lb rfl) fun w0 hpre => ?_
  have hs_qa : Sees w0 _ _ _ _ := hpre.1
  refine jC <| jF <| jA (jG (v := str []) rfl) <| jE <| jB <| jC <| jF <| jA (jD (v := .slice la l.length lc) rfl) <| jA (jD (v := .pointer (some ⟨qb, 0, none⟩)) rfl) <| jA (jD (v := .slice la l.length lc) rfl) ?_
  refine jA (jr ku rfl) ?_
  refine jH rfl (jI [0] Tryz.call73 rfl (D_below qb qa qc ql qp qs (by omega) (by omega) ((l.length : Nat) : Int) (by omega)) rfl (fun w hw => ⟨hw.seeOut_ hs_qa (hpre.2), hw.apart hs_qa (hpre.2) (by simp)⟩)) ?_
  rintro _ _ ⟨_, ⟨qp_1, qs_2, n_4, fq_3, f_5, rfl, rfl⟩, rfl⟩
  refine kN fun hst => ?_
  obtain ⟨hr_7, hr_7b, -⟩ := row_some 1 rfl (by omega) hst
  refine jA (jk (i := n_4) ku kt hr_7 hr_7b rfl rfl (by omega)) <| jK (ka 1 (v := str (l.getD n_4 [])) rfl rfl ki (atS (by omega))) <| jA (jG (v := str (l.getD n_4 [])) rfl) <| jE <| jB <| jN <| jV (.inl rfl) rfl (jJ (v := str (l.getD n_4 [])) rfl) (tS 1 _) ?_
  exact ⟨qp_1, qs_2, (l.getD n_4 []), (by omega), (getD_mem (by omega)), rfl, rfl⟩

theorem D_pickInt (qb : Nat) (qa : Option Addr) (qc : Nat) (ql : Str) (qp : Nat) (qs : Int) (la : Option Addr) (lc : Nat) (l : List Int) (hql : ql.length ≤ 1048576) (hqp : qp ≤ ql.length)  (hl0 : 0 < l.length) (hl1 : l.length ≤ 1000) :
    Ct Tryz.prog 98 [.pointer (some ⟨qb, 0, none⟩), .slice la l.length lc] [cb qb qa qc ql qp qs, rI la lc l] (fun w => seesC w qa qc ql [cb qb qa qc ql qp qs, rI la lc l]) (fun v A' => ∃ qp' qs' r0, qp' ≤ ql.length ∧ (r0 ∈ l) ∧ v = .int .i64 r0 ∧ A' = [cb qb qa qc ql qp' qs']) := by
  refine Ct.intro Tryz.func98 rfl Tryz.ntmps98 (lb rfl) fun w0 hpre => ?_
  have hs_qa : Sees w0 _ _ _ _ := hpre.1
  refine jC <| jF <| jA (jG (v := iv 0) rfl) <| jE <| jB <| jC <| jF <| jA (jD (v := .slice la l.length lc) rfl) <| jA (jD (v := .pointer (some ⟨qb, 0, none⟩)) rfl) <| jA (jD (v := .slice la l.length lc) rfl) ?_
  refine jA (jr Tryz.underlying41 rfl) ?_
  refine jH rfl (jI [0] Tryz.call73 rfl (D_below qb qa qc ql qp qs (by omega) (by omega) ((l.length : Nat) : Int) (by omega)) rfl (fun w hw => ⟨hw.seeOut_ hs_qa (hpre.2), hw.apart hs_qa (hpre.2) (by simp)⟩)) ?_
  rintro _ _ ⟨_, ⟨qp_1, qs_2, n_4, fq_3, f_5, rfl, rfl⟩, rfl⟩
  refine kN fun hst => ?_
  obtain ⟨hr_7, hr_7b, -⟩ := row_some 1 rfl (by omega) hst
  refine jA (jk (i := n_4) Tryz.underlying41 gA hr_7 hr_7b rfl rfl (by omega)) <| jK (ka 1 (v := iv (l.getD n_4 0)) rfl rfl kq (atI (by omega))) <| jA (jG (v := iv (l.getD n_4 0)) rfl) <| jE <| jB <| jN <| jV (.inl rfl) rfl (jJ (v := iv (l.getD n_4 0)) rfl) (tS 1 _) ?_
  exact ⟨qp_1, qs_2, (l.getD n_4 0), (by omega), (getD_mem (by omega)), rfl, rfl⟩

theorem D_new (pa : Option Addr) (pc : Nat) (p : Str) (hp : p.length ≤ 1048576)  :
    Ct Tryz.prog 72 [.slice pa p.length pc] [] (fun w => Sees w (.slice pa p.length pc) 1 p.length (p.map encB)) (fun v A' => ∃ r0 r0s, True ∧ v = .pointer (some ⟨r0, 0, none⟩) ∧ A' = [cb r0 pa pc p 0 r0s]) := by
  refine Ct.intro Tryz.func72 rfl Tryz.ntmps72 (lb rfl) fun w0 hpre => ?_
  have hs_pa : Sees w0 _ _ _ _ := hpre
  refine jC <| jF <| jA (jG (v := .pointer none) rfl) <| jE <| jB <| jC <| jF <| jA (jD (v := .slice pa p.length pc) rfl) <| jA (jr kr rfl) <| jA (jc (c := ((94701 + p.length : Nat) : Int)) rfl rfl (wr (by omega))) ?_
  refine jA (jG (v := iv ((94701 + p.length : Nat) : Int)) rfl) <| jE <| jB <| jC <| jC <| jF <| jA (jG (v := iv 0) rfl) <| jE <| jB <| jf ?_
  refine kD (fun k_ e_ L_ => ∃ i_ : Nat, ∃ s_ : Int, (i_ ≤ p.length) ∧ (0 ≤ s_ ∧ s_ ≤ 1073741823) ∧ e_ 0 = .slice pa p.length pc ∧ e_ 2 = .pointer none ∧ e_ 3 = iv s_ ∧ e_ 4 = nv i_ ∧ L_ = [] ∧ k_ = 1048577 - i_) _ ⟨0, ((94701 + p.length : Nat) : Int), (by omega), (by omega), rfl, rfl, rfl, rfl, rfl, rfl⟩ ?_
  rintro _ e_1 _ ⟨i_, s_, hi, hs, he_2, he_3, he_4, he_5, rfl, rfl⟩
  refine jC <| jC <| jF <| jA (jD (v := nv i_) he_5) <| jA (jD (v := .slice pa p.length pc) he_2) <| jA (jr kr rfl) <| jA (jl rfl rfl) <| jA (jD (v := .bool (decide (((i_ : Nat) : Int) < ((p.length : Nat) : Int)))) rfl) ?_
  by_cases h_6 : ((i_ : Nat) : Int) < ((p.length : Nat) : Int)
  · have hu8 := UInt8.toNat_lt (p.getD i_ 0)
    refine jM rfl rfl rfl (cB (dT h_6)) (jP (jU (jD (v := nv i_) he_5))) ?_
    rintro _ _ ⟨rfl, rfl⟩
    refine jM rfl rfl rfl (cB (dT h_6)) (jP (jU (jl rfl rfl))) ?_
    rintro _ _ ⟨rfl, rfl⟩
    refine jA (jh (v := .bool (decide (((i_ : Nat) : Int) < 4000))) (cB (dT h_6)) rfl) <| jE <| jB ?_
    by_cases h_7 : ((i_ : Nat) : Int) < 4000
    · refine jW (cB (dT h_7)) <| jT <| jB <| jC <| jf <| jF <| jA (jD (v := iv s_) he_4) <| jA (PO.mul (c := s_ * 131) rfl rfl (wr (by omega))) <| jA (jD (v := .slice pa p.length pc) he_2) <| jA (jD (v := nv i_) he_5) ?_
      obtain ⟨hr_8, hr_8b, -⟩ := sees_some hs_pa (by omega)
      refine jA (jk (i := i_) kr gH hr_8 hr_8b rfl rfl (by omega)) <| jK (kY (v := .int .u8 (((p.getD i_ 0).toNat : Nat) : Int)) hs_pa nM rfl Tryz.isAgg5 (atB (by omega))) <| jA (PO.convI (c := (((p.getD i_ 0).toNat : Nat) : Int)) kv gC rfl (wr (by omega))) <| jA (jc (c := (s_ * 131) + (((p.getD i_ 0).toNat : Nat) : Int)) rfl rfl (wr (by omega))) <| jA (jc (c := ((s_ * 131) + (((p.getD i_ 0).toNat : Nat) : Int)) + 7) rfl rfl (wr (by omega))) <| jA (PO.bits (by simp) rfl rfl) <| jA (jG (v := iv (Go.bits .and .i64 (((s_ * 131) + (((p.getD i_ 0).toNat : Nat) : Int)) + 7) 1073741823)) rfl) <| jE <| jm <| jB ?_
      refine jF <| jA (jD (v := nv i_) he_5) <| jA (jc (c := ((i_ + 1 : Nat) : Int)) rfl rfl (wr (by omega))) <| jA (jG (v := iv ((i_ + 1 : Nat) : Int)) rfl) <| jE <| kB [] (A := []) rfl ?_
      refine jq (1048577 - (i_ + 1)) (by omega) ⟨(i_ + 1), (Go.bits .and .i64 (((s_ * 131) + (((p.getD i_ 0).toNat : Nat) : Int)) + 7) 1073741823), (by omega), (and_bnd _ _ (by decide) (by decide)), he_2, he_3, rfl, rfl, rfl, rfl⟩
    refine jR (cB (dF h_7)) <| jx <| jb <| jb <| jy <| jB <| jC <| jF <| jA (jD (v := .slice pa p.length pc) he_2) <| jA (jD (v := iv s_) he_4) ?_
    refine jA (kW (ps := [(0, .slice pa p.length pc), (2, iv s_)]) (cs := [.slice pa p.length pc, iv 0, iv s_]) rfl (by kernel_rfl)) ?_
    refine jH rfl (kG (cs := [.slice pa p.length pc, iv 0, iv s_]) rfl rfl) ?_
    rintro _ _ ⟨b_9, rfl, rfl⟩
    refine jA (jG (v := .pointer (some ⟨b_9, 0, none⟩)) rfl) <| jE <| jB <| jN <| jV (.inl rfl) rfl (jJ (v := .pointer (some ⟨b_9, 0, none⟩)) rfl) (List.Sublist.refl _) ?_
    exact ⟨b_9, s_, trivial, rfl, rfl⟩
  refine jS (b := false) rfl rfl rfl (cB (dF h_6)) <| jS (b := false) rfl rfl rfl (cB (dF h_6)) <| jA (ji (v := .bool false) (cB (dF h_6)) rfl) <| jE <| jB <| jR (cB rfl) <| jx <| jb <| jb <| jy ?_
  refine jB <| jC <| jF <| jA (jD (v := .slice pa p.length pc) he_2) <| jA (jD (v := iv s_) he_4) <| jA (kW (ps := [(0, .slice pa p.length pc), (2, iv s_)]) (cs := [.slice pa p.length pc, iv 0, iv s_]) rfl (by kernel_rfl)) ?_
  refine jH rfl (kG (cs := [.slice pa p.length pc, iv 0, iv s_]) rfl rfl) ?_
  rintro _ _ ⟨b_10, rfl, rfl⟩
  refine jA (jG (v := .pointer (some ⟨b_10, 0, none⟩)) rfl) <| jE <| jB <| jN <| jV (.inl rfl) rfl (jJ (v := .pointer (some ⟨b_10, 0, none⟩)) rfl) (List.Sublist.refl _) ?_
  exact ⟨b_10, s_, trivial, rfl, rfl⟩

theorem D_long (b : UInt8) (n : Int) (hn : -9223372036854775808 ≤ n ∧ n ≤ 9223372036854775807) (hn0 : 0 ≤ n ∧ n ≤ 30000) :
    Ct Tryz.prog 156 [.int .i64 n, .int .u8 ((b.toNat : Nat) : Int)] [] (fun _ => True) (fun v A' => ∃ r0, (r0.length = n.toNat) ∧ v = str r0 ∧ A' = []) := by
  obtain ⟨nn, hnn⟩ : ∃ nn : Nat, n = ((nn : Nat) : Int) := ⟨n.toNat, by omega⟩
  refine Ct.intro Tryz.func156 rfl Tryz.ntmps156 (lb rfl) fun w0 hpre => ?_
  refine jC <| jF <| jA (jG (v := str []) rfl) <| jE <| jB <| jC <| jF <| jA (jD (v := nv nn) (congrArg (Value.int .i64) hnn)) ?_
  refine jH rfl (JO.makeSlice (z := .int .u8 0) (zc := [.int .u8 0]) (m := nn) kr Tryz.typeInfo5 rfl rfl rfl rfl rfl (by unfold maxLen; omega) (by show 1 * _ ≤ _; omega)) ?_
  rintro _ _ ⟨a_1, rfl, rfl⟩
  rw [mkB_flat]
  refine jA (jG (v := .slice a_1 nn nn) rfl) <| jE <| jB <| jC <| jC <| jF <| jA (jG (v := iv 0) rfl) <| jE <| jB <| jf ?_
  refine kD (fun k_ e_ L_ => ∃ i_ : Nat, ∃ bba : Option Addr, ∃ bbc : Nat, ∃ bbn : Nat, ∃ bb : Str, (bb.length = bbn) ∧ (i_ ≤ nn ∧ bbn = nn) ∧ e_ 0 = nv nn ∧ e_ 1 = .int .u8 ((b.toNat : Nat) : Int) ∧ e_ 4 = str [] ∧ e_ 5 = .slice bba bbn bbc ∧ e_ 6 = nv i_ ∧ L_ = [Res.row (.slice bba bbn bbc) 5 1 bbn (bb.map encB)] ∧ k_ = 30001 - i_) _ ⟨0, a_1, nn, nn, (List.replicate nn (0 : UInt8)), (by first | rfl | omega | (simp only [List.length_append, List.length_cons, List.length_nil, List.length_set]; omega) | simp), (⟨by omega, rfl⟩), (congrArg (Value.int .i64) hnn), rfl, rfl, rfl, rfl, rfl, rfl⟩ ?_
  rintro _ e_2 _ ⟨i_, bba, bbc, bbn, bb, hbbn, hi, he_3, he_4, he_5, he_6, he_7, rfl, rfl⟩
  refine jC <| jC <| jF <| jA (jD (v := nv i_) he_7) <| jA (jD (v := nv nn) he_3) <| jA (jl rfl rfl) <| jE <| jB ?_
  by_cases h_8 : ((i_ : Nat) : Int) < ((nn : Nat) : Int)
  · refine jW (cB (dT h_8)) <| jT <| jB <| jC <| jf <| jF <| jA (jD (v := .slice bba bbn bbc) he_6) <| jA (jD (v := nv i_) he_7) <| jA (jD (v := .int .u8 ((b.toNat : Nat) : Int)) he_4) ?_
    refine kN fun hst => ?_
    obtain ⟨hr_9, hr_9b, -⟩ := row_some 0 rfl (by omega) hst
    refine jA (jk (i := i_) kr gH hr_9 hr_9b rfl rfl (by omega)) ?_
    refine jH rfl (JO.storeR 0 (vs := [.int .u8 ((b.toNat : Nat) : Int)]) (cs' := (bb.set i_ (b)).map encB) rfl rfl rfl rfl gH rfl rfl (by decide) (by rw [List.length_map]; omega) (setB (by omega))) ?_
    rintro _ _ rfl
    refine jE <| jm <| jB <| jF <| jA (jD (v := nv i_) he_7) <| jA (jc (c := ((i_ + 1 : Nat) : Int)) rfl rfl (wr (by omega))) <| jA (jG (v := iv ((i_ + 1 : Nat) : Int)) rfl) <| jE <| kB [0] (A := [Res.row (.slice bba bbn bbc) 5 1 bbn ((bb.set i_ (b)).map encB)]) rfl ?_
    refine jq (30001 - (i_ + 1)) (by omega) ⟨(i_ + 1), bba, bbc, bbn, (bb.set i_ (b)), (by first | rfl | omega | (simp only [List.length_append, List.length_cons, List.length_nil, List.length_set]; omega) | simp), (by omega), he_3, he_4, he_5, he_6, rfl, rfl, rfl⟩
  refine jR (cB (dF h_8)) <| jx <| jb <| jb <| jy <| jB <| jC <| jF <| jA (jD (v := .slice bba bbn bbc) he_6) <| jK (LO.toStr 0 bb rfl kr kv kg rfl rfl) ?_
  refine jA (jG (v := str bb) rfl) <| jE <| jB <| jN <| jV (.inl rfl) rfl (jJ (v := str bb) rfl) (List.nil_sublist _) ?_
  exact ⟨bb, (by first | omega | (simp only [LE]; omega)), rfl, rfl⟩

theorem D_text (qb : Nat) (qa : Option Addr) (qc : Nat) (ql : Str) (qp : Nat) (qs : Int) (hql : ql.length ≤ 1048576) (hqp : qp ≤ ql.length) (k : Int) (hk : -9223372036854775808 ≤ k ∧ k ≤ 9223372036854775807) :
    Ct Tryz.prog 159 [.pointer (some ⟨qb, 0, none⟩), .int .i64 k] [cb qb qa qc ql qp qs] (fun w => seesC w qa qc ql [cb qb qa qc ql qp qs]) (fun v A' => ∃ qp' qs' r0, qp' ≤ ql.length ∧ (r0.length ≤ 5000 ∧ (((r0.length : Nat) : Int) ≤ k ∨ r0.length = 0)) ∧ v = str r0 ∧ A' = [cb qb qa qc ql qp' qs']) := by
  refine Ct.intro Tryz.func159 rfl Tryz.ntmps159 (lb rfl) fun w0 hpre => ?_
  have hs_qa : Sees w0 _ _ _ _ := hpre.1
  refine jC <| jF <| jA (jG (v := str []) rfl) <| jE <| jB <| jC <| jC <| jF <| jA (jD (v := iv k) rfl) <| jA (kR rfl rfl) ?_
  refine jE <| jB ?_
  by_cases h_1 : 5000 < k
  · refine jW (cB (dT h_1)) <| jF <| jA (jG (v := iv 5000) rfl) <| jE <| jB <| jC <| jF ?_
    refine jH rfl (kH (ps := []) (cur := #[]) kr gH gK rfl (by kernel_rfl) (by decide) (by decide)) ?_
    rintro _ _ ⟨a_2, rfl, rfl⟩
    refine jA (jG (v := .slice a_2 0 0) rfl) <| jE <| jB <| jC <| jC <| jF <| jA (jG (v := iv 0) rfl) <| jE <| jB <| jf ?_
    refine kD (fun k_ e_ L_ => ∃ i_ : Nat, ∃ p_q : Nat, ∃ s_q : Int, ∃ o_a : Option Addr, ∃ o_c : Nat, ∃ o_n : Nat, ∃ o_ : Str, (p_q ≤ ql.length) ∧ (o_.length = o_n) ∧ (i_ ≤ 5000 ∧ (((i_ : Nat) : Int) ≤ k ∨ i_ = 0)) ∧ (o_.length = i_) ∧ e_ 0 = .pointer (some ⟨qb, 0, none⟩) ∧ e_ 1 = iv 5000 ∧ e_ 4 = str [] ∧ e_ 5 = .slice o_a o_n o_c ∧ e_ 6 = nv i_ ∧ L_ = [Res.row (.slice o_a o_n o_c) 5 1 o_n (o_.map encB), cb qb qa qc ql p_q s_q] ∧ k_ = 5001 - i_) _ ⟨0, qp, qs, a_2, 0, 0, ([] : List UInt8), (by omega), (by first | rfl | omega | (simp only [List.length_append, List.length_cons, List.length_nil, List.length_set]; omega) | simp), (by omega), (by rfl), rfl, rfl, rfl, rfl, rfl, rfl, rfl⟩ ?_
    rintro _ e_3 _ ⟨i_, p_q, s_q, o_a, o_c, o_n, o_, hpq_, ho_n, hi, ho, he_4, he_5, he_6, he_7, he_8, rfl, rfl⟩
    refine jC <| jC <| jF <| jA (jD (v := nv i_) he_8) <| jA (jD (v := iv 5000) he_5) <| jA (jl rfl rfl) <| jE <| jB ?_
    by_cases h_9 : ((i_ : Nat) : Int) < 5000
    · refine jW (cB (dT h_9)) <| jT <| jB <| jC <| jf <| jF <| jA (jD (v := .slice o_a o_n o_c) he_7) <| jA (jD (v := .pointer (some ⟨qb, 0, none⟩)) he_4) ?_
      refine jH rfl (jI [1] Tryz.call119 rfl (D_byte qb qa qc ql p_q s_q (by omega) (by omega)) rfl (fun w hw => ⟨hw.seeOut_ hs_qa (hpre.2), hw.apart hs_qa (hpre.2) (by simp)⟩)) ?_
      rintro _ _ ⟨_, ⟨qp_10, qs_11, n_13, fq_12, f_14, rfl, rfl⟩, rfl⟩
      refine jA (PO.convI (c := (((UInt8.ofNat n_13).toNat : Nat) : Int)) gC kv rfl (wr8u (c := UInt8.ofNat n_13) (by omega) (by rw [Int.toNat_natCast]))) ?_
      refine jH rfl (kH (ps := [(0, .int .u8 (((UInt8.ofNat n_13).toNat : Nat) : Int))]) (cur := #[.int .u8 (((UInt8.ofNat n_13).toNat : Nat) : Int)]) kr gH gK rfl (by kernel_rfl) (by decide) (by decide)) ?_
      rintro _ _ ⟨a_16, rfl, rfl⟩
      refine jH rfl (kU 2 (q := 1) (news := ([UInt8.ofNat n_13] : List UInt8).map encB) (n' := (o_ ++ ([UInt8.ofNat n_13] : List UInt8)).length) (cs' := (o_ ++ ([UInt8.ofNat n_13] : List UInt8)).map encB) rfl kr kr Tryz.typeInfo5 rfl (by' := 1) rfl rfl rfl rfl rfl (fun w hw => Src.sees (hw.see (i := 0) rfl) (oneB _)) (by (try simp only [LE]); omega) (by (try simp only [LE]); omega) (by simp only [List.length_append, List.length_take, List.length_drop, List.length_cons, List.length_nil] <;> first | rfl | omega) (by simp only [List.map_append])) ?_
      rintro _ _ ⟨a_17, c_18, rfl, rfl⟩
      refine jA (jG (v := .slice a_17 ((o_ ++ ([UInt8.ofNat n_13] : List UInt8)).length) c_18) rfl) <| jE <| jm <| jB <| jF <| jA (jD (v := nv i_) he_8) <| jA (jc (c := ((i_ + 1 : Nat) : Int)) rfl rfl (wr (by omega))) <| jA (jG (v := iv ((i_ + 1 : Nat) : Int)) rfl) <| jE <| kB [2, 1] (A := [Res.row (.slice a_17 ((o_ ++ ([UInt8.ofNat n_13] : List UInt8)).length) c_18) 5 1 ((o_ ++ ([UInt8.ofNat n_13] : List UInt8)).length) ((o_ ++ ([UInt8.ofNat n_13] : List UInt8)).map encB), cb qb qa qc ql qp_10 qs_11]) rfl ?_
      refine jq (5001 - (i_ + 1)) (by omega) ⟨(i_ + 1), qp_10, qs_11, a_17, c_18, ((o_ ++ ([UInt8.ofNat n_13] : List UInt8)).length), (o_ ++ ([UInt8.ofNat n_13] : List UInt8)), (by omega), (by first | rfl | omega | (simp only [List.length_append, List.length_cons, List.length_nil, List.length_set]; omega) | simp), (by omega), (by first | omega | (simp only [List.length_append, List.length_cons, List.length_nil, List.length_set]; omega)), he_4, he_5, he_6, rfl, rfl, rfl, rfl⟩
    refine jR (cB (dF h_9)) <| jx <| jb <| jb <| jy <| jB <| jC <| jF <| jA (jD (v := .slice o_a o_n o_c) he_7) <| jK (LO.toStr 0 o_ rfl kr kv kg rfl rfl) ?_
    refine jA (jG (v := str o_) rfl) <| jE <| jB <| jN <| kM (pick_perm [1] (A := [cb qb qa qc ql p_q s_q]) (F := [Res.row (.slice o_a o_n o_c) 5 1 o_n (o_.map encB)]) rfl).symm <| jV (.inl rfl) rfl (jJ (v := str o_) rfl) (tS 1 _) ?_
    exact ⟨p_q, s_q, o_, (by omega), (by first | omega | (simp only [LE]; omega)), rfl, rfl⟩
  refine jR (cB (dF h_1)) <| jT <| jB <| jC <| jF ?_
  refine jH rfl (kH (ps := []) (cur := #[]) kr gH gK rfl (by kernel_rfl) (by decide) (by decide)) ?_
  rintro _ _ ⟨a_19, rfl, rfl⟩
  refine jA (jG (v := .slice a_19 0 0) rfl) <| jE <| jB <| jC <| jC <| jF <| jA (jG (v := iv 0) rfl) <| jE <| jB <| jf ?_
  refine kD (fun k_ e_ L_ => ∃ i_ : Nat, ∃ p_q : Nat, ∃ s_q : Int, ∃ o_a : Option Addr, ∃ o_c : Nat, ∃ o_n : Nat, ∃ o_ : Str, (p_q ≤ ql.length) ∧ (o_.length = o_n) ∧ (i_ ≤ 5000 ∧ (((i_ : Nat) : Int) ≤ k ∨ i_ = 0)) ∧ (o_.length = i_) ∧ e_ 0 = .pointer (some ⟨qb, 0, none⟩) ∧ e_ 1 = iv k ∧ e_ 4 = str [] ∧ e_ 5 = .slice o_a o_n o_c ∧ e_ 6 = nv i_ ∧ L_ = [Res.row (.slice o_a o_n o_c) 5 1 o_n (o_.map encB), cb qb qa qc ql p_q s_q] ∧ k_ = 5001 - i_) _ ⟨0, qp, qs, a_19, 0, 0, ([] : List UInt8), (by omega), (by first | rfl | omega | (simp only [List.length_append, List.length_cons, List.length_nil, List.length_set]; omega) | simp), (by omega), (by rfl), rfl, rfl, rfl, rfl, rfl, rfl, rfl⟩ ?_
  rintro _ e_20 _ ⟨i_, p_q, s_q, o_a, o_c, o_n, o_, hpq_, ho_n, hi, ho, he_21, he_22, he_23, he_24, he_25, rfl, rfl⟩
  refine jC <| jC <| jF <| jA (jD (v := nv i_) he_25) <| jA (jD (v := iv k) he_22) <| jA (jl rfl rfl) <| jE <| jB ?_
  by_cases h_26 : ((i_ : Nat) : Int) < k
  · refine jW (cB (dT h_26)) <| jT <| jB <| jC <| jf <| jF <| jA (jD (v := .slice o_a o_n o_c) he_24) <| jA (jD (v := .pointer (some ⟨qb, 0, none⟩)) he_21) ?_
    refine jH rfl (jI [1] Tryz.call119 rfl (D_byte qb qa qc ql p_q s_q (by omega) (by omega)) rfl (fun w hw => ⟨hw.seeOut_ hs_qa (hpre.2), hw.apart hs_qa (hpre.2) (by simp)⟩)) ?_
    rintro _ _ ⟨_, ⟨qp_27, qs_28, n_30, fq_29, f_31, rfl, rfl⟩, rfl⟩
    refine jA (PO.convI (c := (((UInt8.ofNat n_30).toNat : Nat) : Int)) gC kv rfl (wr8u (c := UInt8.ofNat n_30) (by omega) (by rw [Int.toNat_natCast]))) ?_
    refine jH rfl (kH (ps := [(0, .int .u8 (((UInt8.ofNat n_30).toNat : Nat) : Int))]) (cur := #[.int .u8 (((UInt8.ofNat n_30).toNat : Nat) : Int)]) kr gH gK rfl (by kernel_rfl) (by decide) (by decide)) ?_
    rintro _ _ ⟨a_33, rfl, rfl⟩
    refine jH rfl (kU 2 (q := 1) (news := ([UInt8.ofNat n_30] : List UInt8).map encB) (n' := (o_ ++ ([UInt8.ofNat n_30] : List UInt8)).length) (cs' := (o_ ++ ([UInt8.ofNat n_30] : List UInt8)).map encB) rfl kr kr Tryz.typeInfo5 rfl (by' := 1) rfl rfl rfl rfl rfl (fun w hw => Src.sees (hw.see (i := 0) rfl) (oneB _)) (by (try simp only [LE]); omega) (by (try simp only [LE]); omega) (by simp only [List.length_append, List.length_take, List.length_drop, List.length_cons, List.length_nil] <;> first | rfl | omega) (by simp only [List.map_append])) ?_
    rintro _ _ ⟨a_34, c_35, rfl, rfl⟩
    refine jA (jG (v := .slice a_34 ((o_ ++ ([UInt8.ofNat n_30] : List UInt8)).length) c_35) rfl) <| jE <| jm <| jB <| jF <| jA (jD (v := nv i_) he_25) <| jA (jc (c := ((i_ + 1 : Nat) : Int)) rfl rfl (wr (by omega))) <| jA (jG (v := iv ((i_ + 1 : Nat) : Int)) rfl) <| jE <| kB [2, 1] (A := [Res.row (.slice a_34 ((o_ ++ ([UInt8.ofNat n_30] : List UInt8)).length) c_35) 5 1 ((o_ ++ ([UInt8.ofNat n_30] : List UInt8)).length) ((o_ ++ ([UInt8.ofNat n_30] : List UInt8)).map encB), cb qb qa qc ql qp_27 qs_28]) rfl ?_
    refine jq (5001 - (i_ + 1)) (by omega) ⟨(i_ + 1), qp_27, qs_28, a_34, c_35, ((o_ ++ ([UInt8.ofNat n_30] : List UInt8)).length), (o_ ++ ([UInt8.ofNat n_30] : List UInt8)), (by omega), (by first | rfl | omega | (simp only [List.length_append, List.length_cons, List.length_nil, List.length_set]; omega) | simp), (by omega), (by first | omega | (simp only [List.length_append, List.length_cons, List.length_nil, List.length_set]; omega)), he_21, he_22, he_23, rfl, rfl, rfl, rfl⟩
  refine jR (cB (dF h_26)) <| jx <| jb <| jb <| jy <| jB <| jC <| jF <| jA (jD (v := .slice o_a o_n o_c) he_24) <| jK (LO.toStr 0 o_ rfl kr kv kg rfl rfl) ?_
  refine jA (jG (v := str o_) rfl) <| jE <| jB <| jN <| kM (pick_perm [1] (A := [cb qb qa qc ql p_q s_q]) (F := [Res.row (.slice o_a o_n o_c) 5 1 o_n (o_.map encB)]) rfl).symm <| jV (.inl rfl) rfl (jJ (v := str o_) rfl) (tS 1 _) ?_
  exact ⟨p_q, s_q, o_, (by omega), (by first | omega | (simp only [LE]; omega)), rfl, rfl⟩

theorem D_key (qb : Nat) (qa : Option Addr) (qc : Nat) (ql : Str) (qp : Nat) (qs : Int) (hql : ql.length ≤ 1048576) (hqp : qp ≤ ql.length)  :
    Ct Tryz.prog 157 [.pointer (some ⟨qb, 0, none⟩)] [cb qb qa qc ql qp qs] (fun w => seesC w qa qc ql [cb qb qa qc ql qp qs]) (fun v A' => ∃ qp' qs' r0, qp' ≤ ql.length ∧ (r0.length ≤ 64) ∧ v = str r0 ∧ A' = [cb qb qa qc ql qp' qs']) := by
  refine Ct.intro Tryz.func157 rfl Tryz.ntmps157 (lb rfl) fun w0 hpre => ?_
  have hs_qa : Sees w0 _ _ _ _ := hpre.1
  refine jC <| jF <| jA (jG (v := str []) rfl) <| jE <| jB <| jC <| jF <| jA (jD (v := .pointer (some ⟨qb, 0, none⟩)) rfl) ?_
  refine jH rfl (kH (ps := [(0, str [97]), (1, str [98]), (2, str [110, 47, 120]), (3, str [110, 47, 121]), (4, str [110, 47, 121, 121]), (5, str [105, 47, 49, 47, 115]), (6, str [105, 47, 49, 47, 98, 47, 48]), (7, str [105, 47, 49, 50, 47, 115]), (8, str [99, 47, 112, 105, 112, 101]), (9, str [112, 47, 49, 47, 104])]) (cur := #[str [97], str [98], str [110, 47, 120], str [110, 47, 121], str [110, 47, 121, 121], str [105, 47, 49, 47, 115], str [105, 47, 49, 47, 98, 47, 48], str [105, 47, 49, 50, 47, 115], str [99, 47, 112, 105, 112, 101], str [112, 47, 49, 47, 104]]) ku kt Tryz.zeroValue9 rfl (by kernel_rfl) (by decide) (by decide)) ?_
  rintro _ _ ⟨a_1, rfl, rfl⟩
  refine jH rfl (jI [1, 0] Tryz.call158 rfl (D_pick qb qa qc ql qp qs a_1 10 ([[97], [98], [110, 47, 120], [110, 47, 121], [110, 47, 121, 121], [105, 47, 49, 47, 115], [105, 47, 49, 47, 98, 47, 48], [105, 47, 49, 50, 47, 115], [99, 47, 112, 105, 112, 101], [112, 47, 49, 47, 104]] : List Str) (by omega) (by omega) (by simp) (by simp)) rfl (fun w hw => ⟨hw.seeOut_ hs_qa (hpre.2), hw.apart hs_qa (hpre.2) (by simp)⟩)) ?_
  rintro _ _ ⟨_, ⟨qp_2, qs_3, u_5, fq_4, f_6, rfl, rfl⟩, rfl⟩
  have hlu_5 : u_5.length ≤ 64 := by have hx_ := f_6; simp only [List.mem_cons, List.not_mem_nil, or_false] at hx_; rcases hx_ with hx_ | hx_ | hx_ | hx_ | hx_ | hx_ | hx_ | hx_ | hx_ | hx_ <;> first | (rw [hx_]; decide) | (rw [hx_]; omega)
  refine jA (jG (v := str u_5) rfl) <| jE <| jB <| jN <| jV (.inl rfl) rfl (jJ (v := str u_5) rfl) (List.Sublist.refl _) ?_
  exact ⟨qp_2, qs_3, u_5, (by omega), (by first | omega | (simp only [LE]; omega)), rfl, rfl⟩

theorem D_val (qb : Nat) (qa : Option Addr) (qc : Nat) (ql : Str) (qp : Nat) (qs : Int) (hql : ql.length ≤ 1048576) (hqp : qp ≤ ql.length)  :
    Ct Tryz.prog 137 [.pointer (some ⟨qb, 0, none⟩)] [cb qb qa qc ql qp qs] (fun w => seesC w qa qc ql [cb qb qa qc ql qp qs]) (fun v A' => ∃ qp' qs' r0, qp' ≤ ql.length ∧ (r0.length ≤ 64) ∧ v = str r0 ∧ A' = [cb qb qa qc ql qp' qs']) := by
  refine Ct.intro Tryz.func137 rfl Tryz.ntmps137 (lb rfl) fun w0 hpre => ?_
  have hs_qa : Sees w0 _ _ _ _ := hpre.1
  refine jC <| jF <| jA (jG (v := str []) rfl) <| jE <| jB <| jC <| jC <| jF <| jA (jD (v := .pointer (some ⟨qb, 0, none⟩)) rfl) ?_
  refine jH rfl (jI [0] Tryz.call99 rfl (D_once qb qa qc ql qp qs (by omega) (by omega) 16 (by omega)) rfl (fun w hw => ⟨hw.seeOut_ hs_qa (hpre.2), hw.apart hs_qa (hpre.2) (by simp)⟩)) ?_
  rintro _ _ ⟨_, ⟨qp_1, qs_2, b_4, fq_3, rfl, rfl⟩, rfl⟩
  refine jE <| jB ?_
  rcases Bool.eq_false_or_eq_true (b_4) with h_6 | h_6
  · refine jW (cB h_6) <| jC <| jF <| jA (jD (v := .pointer (some ⟨qb, 0, none⟩)) rfl) ?_
    refine jH rfl (jI [0] Tryz.call73 rfl (D_below qb qa qc ql qp_1 qs_2 (by omega) (by omega) 2 (by omega)) rfl (fun w hw => ⟨hw.seeOut_ hs_qa (hpre.2), hw.apart hs_qa (hpre.2) (by simp)⟩)) ?_
    rintro _ _ ⟨_, ⟨qp_7, qs_8, n_10, fq_9, f_11, rfl, rfl⟩, rfl⟩
    refine jA (jc (c := ((60 + n_10 : Nat) : Int)) rfl rfl (wr (by omega))) ?_
    refine jH rfl (jI [] Tryz.call156 rfl (D_long (5 : UInt8) ((60 + n_10 : Nat) : Int) (by omega) (by omega)) rfl (fun _ _ => trivial)) ?_
    rintro _ _ ⟨_, ⟨u_13, f_14, rfl, rfl⟩, rfl⟩
    refine jA (jG (v := str u_13) rfl) <| jE <| jB <| jN <| jX <| jV (.inl rfl) rfl (jJ (v := str u_13) rfl) (List.Sublist.refl _) ?_
    exact ⟨qp_7, qs_8, u_13, (by omega), (by first | omega | (simp only [LE]; omega)), rfl, rfl⟩
  refine jR (cB h_6) <| jT <| jB <| jC <| jF <| jA (jD (v := .pointer (some ⟨qb, 0, none⟩)) rfl) <| jA (jD (v := .pointer (some ⟨qb, 0, none⟩)) rfl) ?_
  refine jH rfl (jI [0] Tryz.call73 rfl (D_below qb qa qc ql qp_1 qs_2 (by omega) (by omega) 5 (by omega)) rfl (fun w hw => ⟨hw.seeOut_ hs_qa (hpre.2), hw.apart hs_qa (hpre.2) (by simp)⟩)) ?_
  rintro _ _ ⟨_, ⟨qp_16, qs_17, n_19, fq_18, f_20, rfl, rfl⟩, rfl⟩
  refine jH rfl (jI [0] Tryz.call159 rfl (D_text qb qa qc ql qp_16 qs_17 (by omega) (by omega) ((n_19 : Nat) : Int) (by omega)) rfl (fun w hw => ⟨hw.seeOut_ hs_qa (hpre.2), hw.apart hs_qa (hpre.2) (by simp)⟩)) ?_
  rintro _ _ ⟨_, ⟨qp_22, qs_23, u_25, fq_24, f_26, rfl, rfl⟩, rfl⟩
  refine jA (jG (v := str u_25) rfl) <| jE <| jB <| jN <| jV (.inl rfl) rfl (jJ (v := str u_25) rfl) (List.Sublist.refl _) ?_
  exact ⟨qp_22, qs_23, u_25, (by omega), (by first | omega | (simp only [LE]; omega)), rfl, rfl⟩

theorem D_anyKey (qb : Nat) (qa : Option Addr) (qc : Nat) (ql : Str) (qp : Nat) (qs : Int) (hql : ql.length ≤ 1048576) (hqp : qp ≤ ql.length)  :
    Ct Tryz.prog 136 [.pointer (some ⟨qb, 0, none⟩)] [cb qb qa qc ql qp qs] (fun w => seesC w qa qc ql [cb qb qa qc ql qp qs]) (fun v A' => ∃ qp' qs' r0, qp' ≤ ql.length ∧ (r0.length ≤ 64) ∧ v = str r0 ∧ A' = [cb qb qa qc ql qp' qs']) := by
  refine Ct.intro Tryz.func136 rfl Tryz.ntmps136 (lb rfl) fun w0 hpre => ?_
  have hs_qa : Sees w0 _ _ _ _ := hpre.1
  refine jC <| jF <| jA (jG (v := str []) rfl) <| jE <| jB <| jC <| jC <| jF <| jA (jD (v := .pointer (some ⟨qb, 0, none⟩)) rfl) ?_
  refine jH rfl (jI [0] Tryz.call99 rfl (D_once qb qa qc ql qp qs (by omega) (by omega) 12 (by omega)) rfl (fun w hw => ⟨hw.seeOut_ hs_qa (hpre.2), hw.apart hs_qa (hpre.2) (by simp)⟩)) ?_
  rintro _ _ ⟨_, ⟨qp_1, qs_2, b_4, fq_3, rfl, rfl⟩, rfl⟩
  refine jE <| jB ?_
  rcases Bool.eq_false_or_eq_true (b_4) with h_6 | h_6
  · refine jW (cB h_6) <| jC <| jF <| jA (jD (v := .pointer (some ⟨qb, 0, none⟩)) rfl) ?_
    refine jH rfl (jI [] Tryz.call156 rfl (D_long (97 : UInt8) 40 (by omega) (by omega)) rfl (fun _ _ => trivial)) ?_
    rintro _ _ ⟨_, ⟨u_7, f_8, rfl, rfl⟩, rfl⟩
    refine jH rfl (jI [] Tryz.call156 rfl (D_long (97 : UInt8) 41 (by omega) (by omega)) rfl (fun _ _ => trivial)) ?_
    rintro _ _ ⟨_, ⟨u_10, f_11, rfl, rfl⟩, rfl⟩
    refine jH rfl (kH (ps := [(0, str []), (1, str [97, 32, 98]), (2, str [110, 47, 42]), (3, str [127]), (4, str u_7), (5, str u_10)]) (cur := #[str [], str [97, 32, 98], str [110, 47, 42], str [127], str u_7, str u_10]) ku kt Tryz.zeroValue9 rfl (by kernel_rfl) (by decide) (by decide)) ?_
    rintro _ _ ⟨a_13, rfl, rfl⟩
    refine jH rfl (jI [1, 0] Tryz.call158 rfl (D_pick qb qa qc ql qp_1 qs_2 a_13 6 ([[], [97, 32, 98], [110, 47, 42], [127], u_7, u_10] : List Str) (by omega) (by omega) (by simp) (by simp)) rfl (fun w hw => ⟨hw.seeOut_ hs_qa (hpre.2), hw.apart hs_qa (hpre.2) (by simp)⟩)) ?_
    rintro _ _ ⟨_, ⟨qp_14, qs_15, u_17, fq_16, f_18, rfl, rfl⟩, rfl⟩
    have hlu_17 : u_17.length ≤ 64 := by have hx_ := f_18; simp only [List.mem_cons, List.not_mem_nil, or_false] at hx_; rcases hx_ with hx_ | hx_ | hx_ | hx_ | hx_ | hx_ <;> first | (rw [hx_]; decide) | (rw [hx_]; omega)
    refine jA (jG (v := str u_17) rfl) <| jE <| jB <| jN <| jX <| jV (.inl rfl) rfl (jJ (v := str u_17) rfl) (List.Sublist.refl _) ?_
    exact ⟨qp_14, qs_15, u_17, (by omega), (by first | omega | (simp only [LE]; omega)), rfl, rfl⟩
  refine jR (cB h_6) <| jT <| jB <| jC <| jF <| jA (jD (v := .pointer (some ⟨qb, 0, none⟩)) rfl) ?_
  refine jH rfl (jI [0] Tryz.call157 rfl (D_key qb qa qc ql qp_1 qs_2 (by omega) (by omega)) rfl (fun w hw => ⟨hw.seeOut_ hs_qa (hpre.2), hw.apart hs_qa (hpre.2) (by simp)⟩)) ?_
  rintro _ _ ⟨_, ⟨qp_20, qs_21, u_23, fq_22, f_24, rfl, rfl⟩, rfl⟩
  refine jA (jG (v := str u_23) rfl) <| jE <| jB <| jN <| jV (.inl rfl) rfl (jJ (v := str u_23) rfl) (List.Sublist.refl _) ?_
  exact ⟨qp_20, qs_21, u_23, (by omega), (by first | omega | (simp only [LE]; omega)), rfl, rfl⟩

end Go.Proofs.YtjncpgcccgdeiaaGreatDoor

set_option linter.unusedSimpArgs false
set_option linter.unusedVariables false
set_option linter.unnecessarySimpa false
namespace Go.Proofs.YtjncpgcccgdeiaaGreatDoor
open Go Go.RowKit
attribute [local irreducible] JL JC JQ JO LO PO JA JX Ct

theorem D_store (qb : Nat) (qa : Option Addr) (qc : Nat) (ql : Str) (qp : Nat) (qs : Int) (hql : ql.length ≤ 1048576) (hqp : qp ≤ ql.length)  :
    Ct Tryz.prog 135 [.pointer (some ⟨qb, 0, none⟩)] [cb qb qa qc ql qp qs] (fun w => seesC w qa qc ql [cb qb qa qc ql qp qs]) (fun v A' => ∃ qp' qs' r0a r0c r0, qp' ≤ ql.length ∧ (okC' 8 64 r0) ∧ v = .slice r0a r0.length r0c ∧ A' = cb qb qa qc ql qp' qs' :: [rC r0a r0c r0]) := by
  refine Ct.intro Tryz.func135 rfl Tryz.ntmps135 (lb rfl) fun w0 hpre => ?_
  have hs_qa : Sees w0 _ _ _ _ := hpre.1
  refine jC <| jF <| jA (jG (v := .slice none 0 0) rfl) <| jE <| jB <| jC <| jF ?_
  refine jH rfl (kH (ps := []) (cur := #[]) kf kh kw rfl (by kernel_rfl) (by decide) (by decide)) ?_
  rintro _ _ ⟨a_1, rfl, rfl⟩
  refine jA (jG (v := .slice a_1 0 0) rfl) <| jE <| jB <| jC <| jC <| jF <| jA (jG (v := iv 0) rfl) <| jE <| jB <| jf ?_
  refine kD (fun k_ e_ L_ => ∃ i_ : Nat, ∃ p_q : Nat, ∃ s_q : Int, ∃ o_a : Option Addr, ∃ o_c : Nat, ∃ o_ : List Cell, (p_q ≤ ql.length) ∧ (i_ ≤ 8) ∧ (okC' i_ 64 o_) ∧ e_ 0 = .pointer (some ⟨qb, 0, none⟩) ∧ e_ 2 = .slice none 0 0 ∧ e_ 3 = .slice o_a o_.length o_c ∧ e_ 4 = nv i_ ∧ L_ = [rC o_a o_c o_, cb qb qa qc ql p_q s_q] ∧ k_ = 9 - i_) _ ⟨0, qp, qs, a_1, 0, ([] : List Cell), (by omega), (by omega), (⟨by simp, fun c hc => by cases hc⟩), rfl, rfl, rfl, rfl, rfl, rfl⟩ ?_
  rintro _ e_2 _ ⟨i_, p_q, s_q, o_a, o_c, o_, hpq_, hi, hO, he_3, he_4, he_5, he_6, rfl, rfl⟩
  refine jC <| jC <| jF <| jA (jD (v := nv i_) he_6) <| jA (jD (v := .pointer (some ⟨qb, 0, none⟩)) he_3) ?_
  refine jH rfl (jI [1] Tryz.call73 rfl (D_below qb qa qc ql p_q s_q (by omega) (by omega) 8 (by omega)) rfl (fun w hw => ⟨hw.seeOut_ hs_qa (hpre.2), hw.apart hs_qa (hpre.2) (by simp)⟩)) ?_
  rintro _ _ ⟨_, ⟨qp_7, qs_8, n_10, fq_9, f_11, rfl, rfl⟩, rfl⟩
  refine jA (jl rfl rfl) <| jE <| jB ?_
  by_cases h_13 : ((i_ : Nat) : Int) < ((n_10 : Nat) : Int)
  · have hO1 := hO.1
    refine jW (cB (dT h_13)) <| jT <| jB <| jC <| jf <| jF <| jA (jD (v := .slice o_a o_.length o_c) he_5) <| jA (jD (v := .pointer (some ⟨qb, 0, none⟩)) he_3) ?_
    refine jH rfl (jI [0] Tryz.call157 rfl (D_key qb qa qc ql qp_7 qs_8 (by omega) (by omega)) rfl (fun w hw => ⟨hw.seeOut_ hs_qa (hpre.2), hw.apart hs_qa (hpre.2) (by simp)⟩)) ?_
    rintro _ _ ⟨_, ⟨qp_14, qs_15, u_17, fq_16, f_18, rfl, rfl⟩, rfl⟩
    refine jA (jD (v := .pointer (some ⟨qb, 0, none⟩)) he_3) ?_
    refine jH rfl (jI [0] Tryz.call137 rfl (D_val qb qa qc ql qp_14 qs_15 (by omega) (by omega)) rfl (fun w hw => ⟨hw.seeOut_ hs_qa (hpre.2), hw.apart hs_qa (hpre.2) (by simp)⟩)) ?_
    rintro _ _ ⟨_, ⟨qp_20, qs_21, u_23, fq_22, f_24, rfl, rfl⟩, rfl⟩
    refine jH rfl (jI [] Tryz.call134 rfl (C_sPutKey o_a o_c o_ u_17 u_23 (by omega) (by omega)) rfl (fun w hw => hw.see (i := 1) rfl)) ?_
    rintro _ _ ⟨_, ⟨a_26, c_27, rfl, rfl⟩, rfl⟩
    refine jA (jG (v := .slice a_26 ((putKey o_ u_17 u_23).length) c_27) rfl) <| jE <| jm <| jB <| jF <| jA (jD (v := nv i_) he_6) <| jA (jc (c := ((i_ + 1 : Nat) : Int)) rfl rfl (wr (by omega))) <| jA (jG (v := iv ((i_ + 1 : Nat) : Int)) rfl) <| jE <| kB [0, 0] (A := [rC a_26 c_27 (putKey o_ u_17 u_23), cb qb qa qc ql qp_20 qs_21]) rfl ?_
    refine jq (9 - (i_ + 1)) (by omega) ⟨(i_ + 1), qp_20, qs_21, a_26, c_27, (putKey o_ u_17 u_23), (by omega), (by omega), (okC'.put hO _ _ (by omega) (by omega)), he_3, he_4, rfl, rfl, rfl, rfl⟩
  refine jR (cB (dF h_13)) <| jx <| jb <| jb <| jy <| jB <| jC <| jF <| jA (jD (v := .slice o_a o_.length o_c) he_5) <| jA (jG (v := .slice o_a o_.length o_c) rfl) ?_
  refine jE <| jB <| jN <| jV (.inl rfl) rfl (jJ (v := .slice o_a o_.length o_c) rfl) (List.Sublist.refl _) ?_
  exact ⟨qp_7, qs_8, o_a, o_c, o_, (by omega), (hO.mono (by omega)), rfl, rfl⟩

end Go.Proofs.YtjncpgcccgdeiaaGreatDoor
