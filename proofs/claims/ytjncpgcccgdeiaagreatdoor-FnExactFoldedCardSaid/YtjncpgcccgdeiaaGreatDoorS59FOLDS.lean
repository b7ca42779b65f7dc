/-
  Checkpoints: FoldBegin, FoldEnd, Folded, by the program and by the reference (part 59).
-/
import Derived.Test.YtjncpgcccgdeiaaGreatDoorS58FOLD
set_option linter.unusedSimpArgs false
set_option linter.unusedVariables false
set_option linter.unnecessarySimpa false
namespace Go.Proofs.YtjncpgcccgdeiaaGreatDoor
open Go Go.RowKit
section
variable {P : Program} {n : Nat} {e : Env} {d : Option Tmp} {ty : TypeId} {pos : String} {aft : Array Edge} {gd : Option (Nat × Bool)}
theorem PO.fieldK {x : Operand} {t k : TypeId} {fs : Array Field} {f : Field} {i : Nat} {cs : Array Value} {vs : List Value} (ht : P.underlying t = some (.struct fs)) (hf : fs[i]? = some f) (hx : rd n e x = .agg cs) (ha : ∀ w, (isAgg f.type).run P w = .ok true w) (hs : ∀ w, (sizeOf f.type).run P w = .ok k w)
    (hc : cs.extract f.offset (f.offset + k) = vs.toArray) : PO P n e ⟨d, .field t x i, ty, pos, aft, gd⟩ (.agg vs.toArray) := fun w => by
  simp [execOp, hx, Instr.field, run_underlying ht, hf, part, ha, hs, hc, asAgg]
end
attribute [local irreducible] JL JC JQ JO LO PO JA JX Ct

set_option maxRecDepth 4000 in
set_option maxHeartbeats 1000000 in
theorem Y_iFoldB (d : DX) (hz : d.dat.okz) (hl : d.dat.lim 1000000000) :
    Ct Tryz.prog 21 [.agg #[.slice d.a d.l.length d.c, str d.jt, .int .i64 d.js]] [] (fun w => SeesA w (rdsD d) ∧ HexOk w) (fun v A' => ∃ y : DX, y.dat = d.dat.foldB.1 ∧ v = .tuple #[.agg #[.slice y.a y.l.length y.c, str y.jt, .int .i64 y.js], .bool d.dat.foldB.2] ∧ A' = [.rows (rdsD y)]) := by
  refine Ct.introL Tryz.func21 rfl Tryz.ntmps21 (lb rfl) fun w0 hpre hlow => ?_
  have hs_1 : Sees w0 (.slice d.a d.l.length d.c) 3 d.l.length (d.l.flatMap encO) := (hpre.1).head
  have hi_2 : SeesA w0 (d.l.flatMap rdsO) := (hpre.1).tail
  have hjt := hz.k2
  have hdl : d.l.length ≤ 1000000000 := by have := hl.l0; simpa only [DX.dat, List.length_map] using this
  refine jC <| jF ?_
  refine jH rfl (kG (cs := [.slice d.a d.l.length d.c, str d.jt, iv d.js]) rfl rfl) ?_
  rintro _ _ ⟨b_3, rfl, rfl⟩
  refine jH rfl (jo (z := .agg #[.slice none 0 0, str [], iv 0]) (cs := [.slice none 0 0, str [], iv 0]) ko rfl) ?_
  rintro _ _ ⟨b_4, rfl, rfl⟩
  refine jA (jG (v := .bool false) rfl) <| jE <| jB <| jC <| jF <| jK (jO 1 (vs := [.slice d.a d.l.length d.c, str d.jt, iv d.js]) rfl rfl ke kd rfl rfl) ?_
  refine jH rfl (jI [] Tryz.call62 rfl (Z_implDiskclone d hl) rfl (fun w hw => hw.seeOutA hpre.1 nMA)) ?_
  rintro _ _ ⟨_, ⟨y_5, hy_6, rfl, rfl⟩, rfl⟩
  refine jH rfl (jo (z := .agg #[.slice none 0 0, str [], iv 0]) (cs := [.slice none 0 0, str [], iv 0]) ko rfl) ?_
  rintro _ _ ⟨b_7, rfl, rfl⟩
  refine jH rfl (ja 0 (vs := [.slice y_5.a y_5.l.length y_5.c, str y_5.jt, iv y_5.js]) (cs' := [.slice y_5.a y_5.l.length y_5.c, str y_5.jt, iv y_5.js]) rfl rfl rfl rfl kd rfl rfl (lb rfl) rfl) ?_
  rintro _ _ rfl
  refine jE <| jB <| jC <| jC <| jF <| jK (jO 3 (vs := [.slice d.a d.l.length d.c, str d.jt, iv d.js]) rfl rfl ke kd rfl rfl) ?_
  refine jH rfl (jI [] Tryz.call47 rfl (Y_implDiskOk d hz (by omega)) rfl (fun w hw => hw.seeOutA hpre.1 nMA)) ?_
  rintro _ _ ⟨_, ⟨rfl, rfl⟩, rfl⟩
  refine jA (jp rfl) <| jE <| jB ?_
  rcases Bool.eq_false_or_eq_true (diskOk d.dat) with h_8 | h_8
  · obtain ⟨q, hq, hql⟩ := diskOk_best h_8
    have hql : q < d.l.length := by simpa only [DX.dat, List.length_map] using hql
    have hjr := diskOk_jour h_8
    have hjr2 : ((d.jt.length : Nat) : Int) ≤ 20000 ∧ 0 ≤ d.js ∧ d.js ≤ ((d.jt.length : Nat) : Int) := by have h_ : jourOk d.jt d.js = true := hjr; simpa only [jourOk, within, Bool.and_eq_true, decide_eq_true_eq, and_assoc] using h_
    have hmost : (d.l.getD q o0).t.seq = mostOf d.dat := by rw [mostOf, hq, Int.toNat_natCast]; exact congrArg SD.seq getD_map'.symm
    have hmr := most_range h_8
    have hl2 := disk_two h_8
    refine jR (cB (cN h_8)) <| jT <| jB <| jC <| jF <| jK (jO 3 (vs := [.slice d.a d.l.length d.c, str d.jt, iv d.js]) rfl rfl ke kd rfl rfl) ?_
    refine jH rfl (jI [] Tryz.call48 rfl (Y_iBestN d hz (by omega) q hq) rfl (fun w hw => hw.seeOutA hpre.1 nMA)) ?_
    rintro _ _ ⟨_, ⟨rfl, rfl⟩, rfl⟩
    refine jA (jG (v := nv q) rfl) <| jE <| jB <| jC <| jF <| jK (jO 3 (vs := [.slice d.a d.l.length d.c, str d.jt, iv d.js]) rfl rfl ke kd rfl rfl) ?_
    refine jH rfl (jI [] Tryz.call33 rfl (Y_iRecov d hz hl) rfl (fun w hw => ⟨hw.seeOutA hpre.1 nMA, hw.hex hlow hpre.2⟩)) ?_
    rintro _ _ ⟨_, ⟨a_9, c_10, rfl, rfl⟩, rfl⟩
    refine jA (jD (v := .tuple #[.slice a_9 d.dat.recov.1.length c_10, iv d.dat.recov.2]) rfl) <| jA (je (v := .slice a_9 d.dat.recov.1.length c_10) rfl rfl) <| jA (je (v := iv d.dat.recov.2) rfl rfl) <| jA (jG (v := .slice a_9 d.dat.recov.1.length c_10) rfl) <| jA (jG (v := iv d.dat.recov.2) rfl) <| jE <| jB <| jC <| jC <| jF ?_
    refine jA (jD (v := iv d.dat.recov.2) rfl) <| jA (kR rfl rfl) <| jA (jD (v := .bool (decide (99999 < d.dat.recov.2))) rfl) ?_
    by_cases h_11 : 99999 < d.dat.recov.2
    · refine jS (b := true) rfl rfl rfl (cB (dT h_11)) <| jS (b := true) rfl rfl rfl (cB (dT h_11)) <| jS (b := true) rfl rfl rfl (cB (dT h_11)) <| jS (b := true) rfl rfl rfl (cB (dT h_11)) <| jS (b := true) rfl rfl rfl (cB (dT h_11)) <| jS (b := true) rfl rfl rfl (cB (dT h_11)) <| jS (b := true) rfl rfl rfl (cB (dT h_11)) <| jS (b := true) rfl rfl rfl (cB (dT h_11)) <| jA (jh (v := .bool true) (cB (dT h_11)) rfl) <| jE ?_
      refine jB <| jW (cB rfl) <| jC <| jF <| jK (jO 1 (vs := [.slice y_5.a y_5.l.length y_5.c, str y_5.jt, iv y_5.js]) rfl rfl ke kd rfl rfl) ?_
      refine jH rfl (ja 3 (vs := [.slice y_5.a y_5.l.length y_5.c, str y_5.jt, iv y_5.js]) (cs' := [.slice y_5.a y_5.l.length y_5.c, str y_5.jt, iv y_5.js]) rfl rfl rfl rfl kd rfl rfl (lb rfl) rfl) ?_
      rintro _ _ rfl
      refine jA (jG (v := .bool false) rfl) <| jE <| jB <| jN <| jX <| kM (pick_perm [2] (A := [Res.rows (rdsD y_5)]) (F := [rC a_9 c_10 d.dat.recov.1, bk b_7 31 [.slice y_5.a y_5.l.length y_5.c, str y_5.jt, iv y_5.js], bk b_4 31 [.slice y_5.a y_5.l.length y_5.c, str y_5.jt, iv y_5.js], bk b_3 31 [.slice d.a d.l.length d.c, str d.jt, iv d.js]]) rfl).symm <| kC (.inl rfl) rfl (kA (jO 3 (vs := [.slice y_5.a y_5.l.length y_5.c, str y_5.jt, iv y_5.js]) rfl rfl ke kd rfl rfl) ⟨_, rfl⟩) (jJ (v := .bool false) rfl) (tS 1 _) ?_
      have he := foldB_no (d := d.dat) (by rintro ⟨h_1, h_2⟩; first | omega | simp_all)
      exact ⟨y_5, (hy_6).trans (congrArg Prod.fst he).symm, by rw [he], rfl⟩
    refine jM rfl rfl rfl (cB (dF h_11)) (jP (jU (jD (v := iv d.dat.recov.2) rfl))) ?_
    rintro _ _ ⟨rfl, rfl⟩
    refine jM rfl rfl rfl (cB (dF h_11)) (jP (jU (jQ fo31_0 rfl))) ?_
    rintro _ _ ⟨rfl, rfl⟩
    refine jM rfl rfl rfl (cB (dF h_11)) (jP (jZ 4 (v := .slice d.a d.l.length d.c) rfl rfl ks rfl)) ?_
    rintro _ _ ⟨rfl, rfl⟩
    refine jM rfl rfl rfl (cB (dF h_11)) (jP (jU (jD (v := nv q) rfl))) ?_
    rintro _ _ ⟨rfl, rfl⟩
    obtain ⟨hr_12, hr_12b, -⟩ := sees_some hs_1 (by omega)
    refine jM rfl rfl rfl (cB (dF h_11)) (jP (jU (jk (i := q) km kj hr_12 hr_12b rfl rfl (by omega)))) ?_
    rintro _ _ ⟨rfl, rfl⟩
    refine jM rfl rfl rfl (cB (dF h_11)) (jP (jU (kL fo60_0 hr_12 rfl))) ?_
    rintro _ _ ⟨rfl, rfl⟩
    have hi_13 := SeesA.elem hi_2 o0 (show q < d.l.length by omega)
    have hs_14 := seesO hi_13
    refine jM rfl rfl rfl (cB (dF h_11)) (jP (kY (v := iv ((d.l.getD q o0).t.seq)) hs_1 nM rfl kq (flat_at encO_len o0 d.l q 0 (by omega) (by decide)))) ?_
    rintro _ _ ⟨rfl, rfl⟩
    refine jM rfl rfl rfl (cB (dF h_11)) (jP (jU (kO rfl rfl))) ?_
    rintro _ _ ⟨rfl, rfl⟩
    refine jA (ji (v := .bool (decide (d.dat.recov.2 = ((d.l.getD q o0).t.seq)))) (cB (dF h_11)) rfl) <| jE <| jB ?_
    by_cases h_15 : d.dat.recov.2 = ((d.l.getD q o0).t.seq)
    · refine jW (cB (dT h_15)) <| jC <| jF <| jK (jO 1 (vs := [.slice y_5.a y_5.l.length y_5.c, str y_5.jt, iv y_5.js]) rfl rfl ke kd rfl rfl) ?_
      refine jH rfl (ja 3 (vs := [.slice y_5.a y_5.l.length y_5.c, str y_5.jt, iv y_5.js]) (cs' := [.slice y_5.a y_5.l.length y_5.c, str y_5.jt, iv y_5.js]) rfl rfl rfl rfl kd rfl rfl (lb rfl) rfl) ?_
      rintro _ _ rfl
      refine jA (jG (v := .bool false) rfl) <| jE <| jB <| jN <| jX <| kM (pick_perm [2] (A := [Res.rows (rdsD y_5)]) (F := [rC a_9 c_10 d.dat.recov.1, bk b_7 31 [.slice y_5.a y_5.l.length y_5.c, str y_5.jt, iv y_5.js], bk b_4 31 [.slice y_5.a y_5.l.length y_5.c, str y_5.jt, iv y_5.js], bk b_3 31 [.slice d.a d.l.length d.c, str d.jt, iv d.js]]) rfl).symm <| kC (.inl rfl) rfl (kA (jO 3 (vs := [.slice y_5.a y_5.l.length y_5.c, str y_5.jt, iv y_5.js]) rfl rfl ke kd rfl rfl) ⟨_, rfl⟩) (jJ (v := .bool false) rfl) (tS 1 _) ?_
      have he := foldB_no (d := d.dat) (by rintro ⟨h_1, h_2⟩; first | omega | simp_all)
      exact ⟨y_5, (hy_6).trans (congrArg Prod.fst he).symm, by rw [he], rfl⟩
    refine jR (cB (dF h_15)) <| jT <| jB <| jC <| jF <| jK (jO 4 (vs := [.slice d.a d.l.length d.c, str d.jt, iv d.js]) rfl rfl ke kd rfl rfl) ?_
    refine jH rfl (jI [] Tryz.call19 rfl (Y_iClean d hz hl) rfl (fun w hw => ⟨hw.seeOutA hpre.1 nMA, hw.hex hlow hpre.2⟩)) ?_
    rintro _ _ ⟨_, ⟨y_16, hy_17, rfl, rfl⟩, rfl⟩
    refine jH rfl (ja 2 (vs := [.slice y_16.a y_16.l.length y_16.c, str y_16.jt, iv y_16.js]) (cs' := [.slice y_16.a y_16.l.length y_16.c, str y_16.jt, iv y_16.js]) rfl rfl rfl rfl kd rfl rfl (lb rfl) rfl) ?_
    rintro _ _ rfl
    refine jE <| jB <| jC ?_
    have hzl : y_16.l.length = 2 := by have e_ := congrArg (fun q : DD => q.slots.length) hy_17; rw [clean_slots] at e_; simp only [DX.dat, List.length_map] at e_; omega
    refine kT (L' := [Res.row (.slice y_16.a y_16.l.length y_16.c) 60 3 y_16.l.length (y_16.l.flatMap encO), Res.rows (y_16.l.flatMap rdsO), rC a_9 c_10 d.dat.recov.1, bk b_7 31 [.slice y_16.a y_16.l.length y_16.c, str y_16.jt, iv y_16.js], Res.rows (rdsD y_5), bk b_4 31 [.slice none 0 0, str [], iv 0], bk b_3 31 [.slice d.a d.l.length d.c, str d.jt, iv d.js]]) (fun w hw => hw.headR (r := ⟨.slice y_16.a y_16.l.length y_16.c, 60, 3, y_16.l.length, y_16.l.flatMap encO⟩) (A := y_16.l.flatMap rdsO) 0 rfl) <| jF <| jA (jQ fo31_0 rfl) <| jK (jZ 3 (v := .slice y_16.a y_16.l.length y_16.c) rfl rfl ks rfl) <| jA (jD (v := nv q) rfl) <| jA (kZ (c := ((1 - q : Nat) : Int)) rfl rfl (wr (by omega))) <| jA (jD (v := iv d.dat.recov.2) rfl) <| jA (jD (v := .slice a_9 d.dat.recov.1.length c_10) rfl) <| jA (kW (ps := [(0, iv d.dat.recov.2), (1, .slice a_9 d.dat.recov.1.length c_10)]) (cs := [iv d.dat.recov.2, .slice a_9 d.dat.recov.1.length c_10, .bool false]) rfl (by kernel_rfl)) ?_
    refine kN fun hst => ?_
    obtain ⟨hr_18, hr_18b, -⟩ := row_some 0 rfl (by omega) hst
    refine jA (jk (i := (1 - q)) km kj hr_18 hr_18b rfl rfl (by omega)) ?_
    refine jH rfl (JO.storeR 0 (vs := [iv d.dat.recov.2, .slice a_9 d.dat.recov.1.length c_10, .bool false]) (cs' := (y_16.l.set (1 - q) (⟨⟨a_9, c_10⟩, ⟨d.dat.recov.2, d.dat.recov.1, false⟩⟩ : OX)).flatMap encO) rfl rfl rfl rfl kj rfl rfl (by decide) (by rw [flat_length encO_len]; omega) (flat_set encO_len y_16.l (1 - q) (⟨⟨a_9, c_10⟩, ⟨d.dat.recov.2, d.dat.recov.1, false⟩⟩ : OX) (by omega))) ?_
    rintro _ _ rfl
    refine jE <| jB <| jC <| jF <| jK (jO 3 (vs := [.slice y_16.a y_16.l.length y_16.c, str y_16.jt, iv y_16.js]) rfl rfl ke kd rfl rfl) ?_
    refine jH rfl (ja 5 (vs := [.slice y_16.a y_16.l.length y_16.c, str y_16.jt, iv y_16.js]) (cs' := [.slice y_16.a y_16.l.length y_16.c, str y_16.jt, iv y_16.js]) rfl rfl rfl rfl kd rfl rfl (lb rfl) rfl) ?_
    rintro _ _ rfl
    refine jA (jG (v := .bool true) rfl) <| jE <| jB <| jN ?_
    have hi1 : 1 - q < y_16.l.length := by omega
    refine ju (L' := [Res.rows ((y_16.l.take (1 - q)).flatMap rdsO), Res.rows (rdsO (y_16.l.getD (1 - q) o0)), Res.rows ((y_16.l.drop (1 - q + 1)).flatMap rdsO), Res.row (.slice y_16.a y_16.l.length y_16.c) 60 3 y_16.l.length ((y_16.l.set (1 - q) (⟨⟨a_9, c_10⟩, ⟨d.dat.recov.2, d.dat.recov.1, false⟩⟩ : OX)).flatMap encO), rC a_9 c_10 d.dat.recov.1, bk b_7 31 [.slice y_16.a y_16.l.length y_16.c, str y_16.jt, iv y_16.js], Res.rows (rdsD y_5), bk b_4 31 [.slice y_16.a y_16.l.length y_16.c, str y_16.jt, iv y_16.js], bk b_3 31 [.slice d.a d.l.length d.c, str d.jt, iv d.js]]) (fun w hw => hw.splitR 1 rfl (flatMap_at o0 hi1)) <| ju (L' := [Res.rows (rdsO (⟨⟨a_9, c_10⟩, ⟨d.dat.recov.2, d.dat.recov.1, false⟩⟩ : OX)), Res.rows ((y_16.l.take (1 - q)).flatMap rdsO), Res.rows (rdsO (y_16.l.getD (1 - q) o0)), Res.rows ((y_16.l.drop (1 - q + 1)).flatMap rdsO), Res.row (.slice y_16.a y_16.l.length y_16.c) 60 3 y_16.l.length ((y_16.l.set (1 - q) (⟨⟨a_9, c_10⟩, ⟨d.dat.recov.2, d.dat.recov.1, false⟩⟩ : OX)).flatMap encO), bk b_7 31 [.slice y_16.a y_16.l.length y_16.c, str y_16.jt, iv y_16.js], Res.rows (rdsD y_5), bk b_4 31 [.slice y_16.a y_16.l.length y_16.c, str y_16.jt, iv y_16.js], bk b_3 31 [.slice d.a d.l.length d.c, str d.jt, iv d.js]]) (fun w hw => hw.closeR (A := rdsO (⟨⟨a_9, c_10⟩, ⟨d.dat.recov.2, d.dat.recov.1, false⟩⟩ : OX)) [4] rfl) <| ju (L' := [Res.rows ((y_16.l.set (1 - q) (⟨⟨a_9, c_10⟩, ⟨d.dat.recov.2, d.dat.recov.1, false⟩⟩ : OX)).flatMap rdsO), Res.rows (rdsO (y_16.l.getD (1 - q) o0)), Res.row (.slice y_16.a y_16.l.length y_16.c) 60 3 y_16.l.length ((y_16.l.set (1 - q) (⟨⟨a_9, c_10⟩, ⟨d.dat.recov.2, d.dat.recov.1, false⟩⟩ : OX)).flatMap encO), bk b_7 31 [.slice y_16.a y_16.l.length y_16.c, str y_16.jt, iv y_16.js], Res.rows (rdsD y_5), bk b_4 31 [.slice y_16.a y_16.l.length y_16.c, str y_16.jt, iv y_16.js], bk b_3 31 [.slice d.a d.l.length d.c, str d.jt, iv d.js]]) (fun w hw => hw.joinR [1, 0, 1] rfl (flatMap_setAt hi1)) <| ju (L' := [Res.rows ((y_16.l.set (1 - q) (⟨⟨a_9, c_10⟩, ⟨d.dat.recov.2, d.dat.recov.1, false⟩⟩ : OX)).flatMap rdsO), Res.rows (rdsO (y_16.l.getD (1 - q) o0)), Res.row (.slice y_16.a ((y_16.l.set (1 - q) (⟨⟨a_9, c_10⟩, ⟨d.dat.recov.2, d.dat.recov.1, false⟩⟩ : OX)).length) y_16.c) 60 3 ((y_16.l.set (1 - q) (⟨⟨a_9, c_10⟩, ⟨d.dat.recov.2, d.dat.recov.1, false⟩⟩ : OX)).length) ((y_16.l.set (1 - q) (⟨⟨a_9, c_10⟩, ⟨d.dat.recov.2, d.dat.recov.1, false⟩⟩ : OX)).flatMap encO), bk b_7 31 [.slice y_16.a y_16.l.length y_16.c, str y_16.jt, iv y_16.js], Res.rows (rdsD y_5), bk b_4 31 [.slice y_16.a y_16.l.length y_16.c, str y_16.jt, iv y_16.js], bk b_3 31 [.slice d.a d.l.length d.c, str d.jt, iv d.js]]) (fun w hw => hw.eqL (by simp only [List.length_set])) <| ju (L' := [Res.rows (rdsOS y_16.a y_16.c (y_16.l.set (1 - q) (⟨⟨a_9, c_10⟩, ⟨d.dat.recov.2, d.dat.recov.1, false⟩⟩ : OX))), Res.rows (rdsO (y_16.l.getD (1 - q) o0)), bk b_7 31 [.slice y_16.a y_16.l.length y_16.c, str y_16.jt, iv y_16.js], Res.rows (rdsD y_5), bk b_4 31 [.slice y_16.a y_16.l.length y_16.c, str y_16.jt, iv y_16.js], bk b_3 31 [.slice d.a d.l.length d.c, str d.jt, iv d.js]]) (fun w hw => hw.consR (r := ⟨.slice y_16.a ((y_16.l.set (1 - q) (⟨⟨a_9, c_10⟩, ⟨d.dat.recov.2, d.dat.recov.1, false⟩⟩ : OX)).length) y_16.c, 60, 3, (y_16.l.set (1 - q) (⟨⟨a_9, c_10⟩, ⟨d.dat.recov.2, d.dat.recov.1, false⟩⟩ : OX)).length, (y_16.l.set (1 - q) (⟨⟨a_9, c_10⟩, ⟨d.dat.recov.2, d.dat.recov.1, false⟩⟩ : OX)).flatMap encO⟩) (A := (y_16.l.set (1 - q) (⟨⟨a_9, c_10⟩, ⟨d.dat.recov.2, d.dat.recov.1, false⟩⟩ : OX)).flatMap rdsO) [2, 0] rfl) <| kC (.inl rfl) rfl (kA (jO 4 (vs := [.slice y_16.a y_16.l.length y_16.c, str y_16.jt, iv y_16.js]) rfl rfl ke kd rfl rfl) ⟨_, rfl⟩) (jJ (v := .bool true) rfl) (tS 1 _) ?_
    have he := foldB_yes (d := d.dat) ⟨h_8, by omega, by omega⟩
    have hc := hy_17
    rw [DD.clean, if_pos h_8] at hc
    refine ⟨(⟨y_16.a, y_16.c, y_16.l.set (1 - q) (⟨⟨a_9, c_10⟩, ⟨d.dat.recov.2, d.dat.recov.1, false⟩⟩ : OX), y_16.jt, y_16.js⟩ : DX), ?_, by simp only [he, List.length_set], rfl⟩
    rw [he]
    exact fold_dat (congrArg DD.slots hc) (congrArg DD.jt hc) (congrArg DD.js hc) hq rfl
  refine jW (cB (cN h_8)) <| jC <| jF <| jK (jO 0 (vs := [.slice y_5.a y_5.l.length y_5.c, str y_5.jt, iv y_5.js]) rfl rfl ke kd rfl rfl) ?_
  refine jH rfl (ja 2 (vs := [.slice y_5.a y_5.l.length y_5.c, str y_5.jt, iv y_5.js]) (cs' := [.slice y_5.a y_5.l.length y_5.c, str y_5.jt, iv y_5.js]) rfl rfl rfl rfl kd rfl rfl (lb rfl) rfl) ?_
  rintro _ _ rfl
  refine jA (jG (v := .bool false) rfl) <| jE <| jB <| jN <| jX <| kM (pick_perm [1] (A := [Res.rows (rdsD y_5)]) (F := [bk b_7 31 [.slice y_5.a y_5.l.length y_5.c, str y_5.jt, iv y_5.js], bk b_4 31 [.slice y_5.a y_5.l.length y_5.c, str y_5.jt, iv y_5.js], bk b_3 31 [.slice d.a d.l.length d.c, str d.jt, iv d.js]]) rfl).symm <| kC (.inl rfl) rfl (kA (jO 2 (vs := [.slice y_5.a y_5.l.length y_5.c, str y_5.jt, iv y_5.js]) rfl rfl ke kd rfl rfl) ⟨_, rfl⟩) (jJ (v := .bool false) rfl) (tS 1 _) ?_
  have he := foldB_no (d := d.dat) (by rintro ⟨h_1, h_2⟩; first | omega | simp_all)
  exact ⟨y_5, (hy_6).trans (congrArg Prod.fst he).symm, by rw [he], rfl⟩

set_option maxRecDepth 4000 in
set_option maxHeartbeats 1000000 in
theorem Y_iFoldE (d : DX) (hz : d.dat.okz) (hl : d.dat.lim 1000000000) :
    Ct Tryz.prog 32 [.agg #[.slice d.a d.l.length d.c, str d.jt, .int .i64 d.js]] [] (fun w => SeesA w (rdsD d)) (fun v A' => ∃ y : DX, y.dat = d.dat.foldE.1 ∧ v = .tuple #[.agg #[.slice y.a y.l.length y.c, str y.jt, .int .i64 y.js], .bool d.dat.foldE.2] ∧ A' = [.rows (rdsD y)]) := by
  refine Ct.intro Tryz.func32 rfl Tryz.ntmps32 (lb rfl) fun w0 hpre => ?_
  have hs_1 : Sees w0 (.slice d.a d.l.length d.c) 3 d.l.length (d.l.flatMap encO) := (hpre).head
  have hi_2 : SeesA w0 (d.l.flatMap rdsO) := (hpre).tail
  have hjt := hz.k2
  have hdl : d.l.length ≤ 1000000000 := by have := hl.l0; simpa only [DX.dat, List.length_map] using this
  refine jC <| jF ?_
  refine jH rfl (kG (cs := [.slice d.a d.l.length d.c, str d.jt, iv d.js]) rfl rfl) ?_
  rintro _ _ ⟨b_3, rfl, rfl⟩
  refine jH rfl (jo (z := .agg #[.slice none 0 0, str [], iv 0]) (cs := [.slice none 0 0, str [], iv 0]) ko rfl) ?_
  rintro _ _ ⟨b_4, rfl, rfl⟩
  refine jA (jG (v := .bool false) rfl) <| jE <| jB <| jC <| jF <| jK (jO 1 (vs := [.slice d.a d.l.length d.c, str d.jt, iv d.js]) rfl rfl ke kd rfl rfl) ?_
  refine jH rfl (jI [] Tryz.call62 rfl (Z_implDiskclone d hl) rfl (fun w hw => hw.seeOutA hpre nMA)) ?_
  rintro _ _ ⟨_, ⟨y_5, hy_6, rfl, rfl⟩, rfl⟩
  refine jH rfl (jo (z := .agg #[.slice none 0 0, str [], iv 0]) (cs := [.slice none 0 0, str [], iv 0]) ko rfl) ?_
  rintro _ _ ⟨b_7, rfl, rfl⟩
  refine jH rfl (ja 0 (vs := [.slice y_5.a y_5.l.length y_5.c, str y_5.jt, iv y_5.js]) (cs' := [.slice y_5.a y_5.l.length y_5.c, str y_5.jt, iv y_5.js]) rfl rfl rfl rfl kd rfl rfl (lb rfl) rfl) ?_
  rintro _ _ rfl
  refine jE <| jB <| jC <| jC ?_
  have hyl : y_5.l.length = d.l.length := by have e_ := congrArg (fun q : DD => q.slots.length) hy_6; simpa only [DX.dat, List.length_map] using e_
  refine jF <| jK (jO 3 (vs := [.slice d.a d.l.length d.c, str d.jt, iv d.js]) rfl rfl ke kd rfl rfl) ?_
  refine jH rfl (jI [] Tryz.call47 rfl (Y_implDiskOk d hz (by omega)) rfl (fun w hw => hw.seeOutA hpre nMA)) ?_
  rintro _ _ ⟨_, ⟨rfl, rfl⟩, rfl⟩
  refine jA (jp rfl) <| jE <| jB ?_
  rcases Bool.eq_false_or_eq_true (diskOk d.dat) with h_8 | h_8
  · obtain ⟨q, hq, hql⟩ := diskOk_best h_8
    have hql : q < d.l.length := by simpa only [DX.dat, List.length_map] using hql
    have hjr := diskOk_jour h_8
    have hjr2 : ((d.jt.length : Nat) : Int) ≤ 20000 ∧ 0 ≤ d.js ∧ d.js ≤ ((d.jt.length : Nat) : Int) := by have h_ : jourOk d.jt d.js = true := hjr; simpa only [jourOk, within, Bool.and_eq_true, decide_eq_true_eq, and_assoc] using h_
    have hmost : (d.l.getD q o0).t.seq = mostOf d.dat := by rw [mostOf, hq, Int.toNat_natCast]; exact congrArg SD.seq getD_map'.symm
    have hmr := most_range h_8
    have hl2 := disk_two h_8
    refine jR (cB (cN h_8)) <| jT <| jB <| jC <| jF <| jK (jO 3 (vs := [.slice d.a d.l.length d.c, str d.jt, iv d.js]) rfl rfl ke kd rfl rfl) ?_
    refine jH rfl (jI [] Tryz.call48 rfl (Y_iBestN d hz (by omega) q hq) rfl (fun w hw => hw.seeOutA hpre nMA)) ?_
    rintro _ _ ⟨_, ⟨rfl, rfl⟩, rfl⟩
    refine jA (jG (v := nv q) rfl) <| jE <| jB <| jC <| jF <| jA (jQ fo31_0 rfl) <| jK (jZ 3 (v := .slice d.a d.l.length d.c) rfl rfl ks rfl) <| jA (jD (v := nv q) rfl) <| jA (kZ (c := ((1 - q : Nat) : Int)) rfl rfl (wr (by omega))) ?_
    obtain ⟨hr_9, hr_9b, -⟩ := sees_some hs_1 (by omega)
    refine jA (jk (i := (1 - q)) km kj hr_9 hr_9b rfl rfl (by omega)) ?_
    have hi_10 := SeesA.elem hi_2 o0 (show 1 - q < d.l.length by omega)
    have hs_11 := seesO hi_10
    refine jK (kX (vs := [iv ((d.l.getD (1 - q) o0).t.seq), .slice ((d.l.getD (1 - q) o0).x.a0) ((d.l.getD (1 - q) o0).t.cells.length) ((d.l.getD (1 - q) o0).x.c0), .bool ((d.l.getD (1 - q) o0).t.whole)]) hs_1 nM rfl gB kj (flat_take encO_len o0 d.l (1 - q) (by omega)) rfl (by decide)) ?_
    refine jH rfl (jo (z := .agg #[iv 0, .slice none 0 0, .bool false]) (cs := [iv 0, .slice none 0 0, .bool false]) gD rfl) ?_
    rintro _ _ ⟨b_12, rfl, rfl⟩
    refine jH rfl (ja 0 (vs := [iv ((d.l.getD (1 - q) o0).t.seq), .slice ((d.l.getD (1 - q) o0).x.a0) ((d.l.getD (1 - q) o0).t.cells.length) ((d.l.getD (1 - q) o0).x.c0), .bool ((d.l.getD (1 - q) o0).t.whole)]) (cs' := [iv ((d.l.getD (1 - q) o0).t.seq), .slice ((d.l.getD (1 - q) o0).x.a0) ((d.l.getD (1 - q) o0).t.cells.length) ((d.l.getD (1 - q) o0).x.c0), .bool ((d.l.getD (1 - q) o0).t.whole)]) rfl rfl rfl rfl kj rfl rfl (lb rfl) rfl) ?_
    rintro _ _ rfl
    refine jE <| jB <| jC <| jC <| kJ [bk b_12 60 [iv ((d.l.getD (1 - q) o0).t.seq), .slice ((d.l.getD (1 - q) o0).x.a0) ((d.l.getD (1 - q) o0).t.cells.length) ((d.l.getD (1 - q) o0).x.c0), .bool ((d.l.getD (1 - q) o0).t.whole)], bk b_7 31 [.slice y_5.a y_5.l.length y_5.c, str y_5.jt, iv y_5.js], Res.rows (rdsD y_5), bk b_4 31 [.slice none 0 0, str [], iv 0], bk b_3 31 [.slice d.a d.l.length d.c, str d.jt, iv d.js]] 1000 mixed (by simp) <| jL 0 rfl (jQ fo60_2 rfl) <| jw 1 rfl (jZ 0 (v := .bool ((d.l.getD (1 - q) o0).t.whole)) rfl rfl gI rfl) <| jL 2 rfl (jD (v := .bool ((d.l.getD (1 - q) o0).t.whole)) rfl) ?_
    rcases Bool.eq_false_or_eq_true ((d.l.getD (1 - q) o0).t.whole) with h_13 | h_13
    · refine jd 3 (b := true) rfl (by kernel_rfl) (NP.th (NP.th NP.body)) (by kernel_rfl) (by kernel_rfl) rfl rfl rfl (cB h_13) <| jd 4 (b := true) rfl (by kernel_rfl) (NP.th (NP.th NP.body)) (by kernel_rfl) (by kernel_rfl) rfl rfl rfl (cB h_13) <| jd 5 (b := true) rfl (by kernel_rfl) (NP.th (NP.th NP.body)) (by kernel_rfl) (by kernel_rfl) rfl rfl rfl (cB h_13) <| jd 6 (b := true) rfl (by kernel_rfl) (NP.th (NP.th NP.body)) (by kernel_rfl) (by kernel_rfl) rfl rfl rfl (cB h_13) <| jd 7 (b := true) rfl (by kernel_rfl) (NP.th (NP.th NP.body)) (by kernel_rfl) (by kernel_rfl) rfl rfl rfl (cB h_13) <| jd 8 (b := true) rfl (by kernel_rfl) (NP.th (NP.th NP.body)) (by kernel_rfl) (by kernel_rfl) rfl rfl rfl (cB h_13) <| jd 9 (b := true) rfl (by kernel_rfl) (NP.th (NP.th NP.body)) (by kernel_rfl) (by kernel_rfl) rfl rfl rfl (cB h_13) <| jd 10 (b := true) rfl (by kernel_rfl) (NP.th (NP.th NP.body)) (by kernel_rfl) (by kernel_rfl) rfl rfl rfl (cB h_13) <| jd 11 (b := true) rfl (by kernel_rfl) (NP.th (NP.th NP.body)) (by kernel_rfl) (by kernel_rfl) rfl rfl rfl (cB h_13) <| jL 12 rfl (jh (v := .bool true) (cB h_13) rfl) ?_
      refine jL 13 rfl (jD (v := .bool true) rfl) <| jd 14 (b := true) rfl (by kernel_rfl) (NP.th (NP.th NP.body)) (by kernel_rfl) (by kernel_rfl) rfl rfl rfl (cB rfl) <| jd 15 (b := true) rfl (by kernel_rfl) (NP.th (NP.th NP.body)) (by kernel_rfl) (by kernel_rfl) rfl rfl rfl (cB rfl) <| jd 16 (b := true) rfl (by kernel_rfl) (NP.th (NP.th NP.body)) (by kernel_rfl) (by kernel_rfl) rfl rfl rfl (cB rfl) <| jd 17 (b := true) rfl (by kernel_rfl) (NP.th (NP.th NP.body)) (by kernel_rfl) (by kernel_rfl) rfl rfl rfl (cB rfl) <| jL 18 rfl (jh (v := .bool true) (cB rfl) rfl) <| jL 19 rfl (jD (v := .bool true) rfl) <| jd 20 (b := true) rfl (by kernel_rfl) (NP.th (NP.th NP.body)) (by kernel_rfl) (by kernel_rfl) rfl rfl rfl (cB rfl) <| jd 21 (b := true) rfl (by kernel_rfl) (NP.th (NP.th NP.body)) (by kernel_rfl) (by kernel_rfl) rfl rfl rfl (cB rfl) <| jd 22 (b := true) rfl (by kernel_rfl) (NP.th (NP.th NP.body)) (by kernel_rfl) (by kernel_rfl) rfl rfl rfl (cB rfl) ?_
      refine jd 23 (b := true) rfl (by kernel_rfl) (NP.th (NP.th NP.body)) (by kernel_rfl) (by kernel_rfl) rfl rfl rfl (cB rfl) <| jL 24 rfl (jh (v := .bool true) (cB rfl) rfl) <| kI (by kernel_rfl) <| jB <| jW (cB rfl) <| jC <| jF <| jK (jO 1 (vs := [.slice y_5.a y_5.l.length y_5.c, str y_5.jt, iv y_5.js]) rfl rfl ke kd rfl rfl) ?_
      refine jH rfl (ja 3 (vs := [.slice y_5.a y_5.l.length y_5.c, str y_5.jt, iv y_5.js]) (cs' := [.slice y_5.a y_5.l.length y_5.c, str y_5.jt, iv y_5.js]) rfl rfl rfl rfl kd rfl rfl (lb rfl) rfl) ?_
      rintro _ _ rfl
      refine jA (jG (v := .bool false) rfl) <| jE <| jB <| jN <| jX <| kM (pick_perm [2] (A := [Res.rows (rdsD y_5)]) (F := [bk b_12 60 [iv ((d.l.getD (1 - q) o0).t.seq), .slice ((d.l.getD (1 - q) o0).x.a0) ((d.l.getD (1 - q) o0).t.cells.length) ((d.l.getD (1 - q) o0).x.c0), .bool ((d.l.getD (1 - q) o0).t.whole)], bk b_7 31 [.slice y_5.a y_5.l.length y_5.c, str y_5.jt, iv y_5.js], bk b_4 31 [.slice y_5.a y_5.l.length y_5.c, str y_5.jt, iv y_5.js], bk b_3 31 [.slice d.a d.l.length d.c, str d.jt, iv d.js]]) rfl).symm <| kC (.inl rfl) rfl (kA (jO 3 (vs := [.slice y_5.a y_5.l.length y_5.c, str y_5.jt, iv y_5.js]) rfl rfl ke kd rfl rfl) ⟨_, rfl⟩) (jJ (v := .bool false) rfl) (tS 1 _) ?_
      have hoth : othD d.dat = (d.l.getD (1 - q) o0).t := by rw [othD, hq, Int.toNat_natCast]; exact getD_map'
      have he := foldE_no (d := d.dat) (by rw [hoth]; rintro ⟨h_1, h_2, h_3, h_4, h_5⟩; first | omega | simp_all)
      exact ⟨y_5, (hy_6).trans (congrArg Prod.fst he).symm, by rw [he], rfl⟩
    refine jg 3 rfl (by kernel_rfl) (NP.th (NP.th NP.body)) (by kernel_rfl) (by kernel_rfl) rfl rfl rfl (cB h_13) (jQ fo60_0 rfl) <| kK 4 rfl (by kernel_rfl) (NP.th (NP.th NP.body)) (by kernel_rfl) (by kernel_rfl) (by kernel_rfl) rfl rfl rfl (cB h_13) (jZ 0 (v := iv ((d.l.getD (1 - q) o0).t.seq)) rfl rfl kq rfl) <| jg 5 rfl (by kernel_rfl) (NP.th (NP.th NP.body)) (by kernel_rfl) (by kernel_rfl) rfl rfl rfl (cB h_13) (jQ fo31_0 rfl) <| kK 6 rfl (by kernel_rfl) (NP.th (NP.th NP.body)) (by kernel_rfl) (by kernel_rfl) (by kernel_rfl) rfl rfl rfl (cB h_13) (jZ 4 (v := .slice d.a d.l.length d.c) rfl rfl ks rfl) <| jg 7 rfl (by kernel_rfl) (NP.th (NP.th NP.body)) (by kernel_rfl) (by kernel_rfl) rfl rfl rfl (cB h_13) (jD (v := nv q) rfl) <| jg 8 rfl (by kernel_rfl) (NP.th (NP.th NP.body)) (by kernel_rfl) (by kernel_rfl) rfl rfl rfl (cB h_13) (jk (i := q) km kj hr_9 hr_9b rfl rfl (by omega)) <| jg 9 rfl (by kernel_rfl) (NP.th (NP.th NP.body)) (by kernel_rfl) (by kernel_rfl) rfl rfl rfl (cB h_13) (kL fo60_0 hr_9 rfl) ?_
    have hi_14 := SeesA.elem hi_2 o0 (show q < d.l.length by omega)
    have hs_15 := seesO hi_14
    refine kK 10 rfl (by kernel_rfl) (NP.th (NP.th NP.body)) (by kernel_rfl) (by kernel_rfl) (by kernel_rfl) rfl rfl rfl (cB h_13) (kY (v := iv ((d.l.getD q o0).t.seq)) hs_1 nM rfl kq (flat_at encO_len o0 d.l q 0 (by omega) (by decide))) <| jg 11 rfl (by kernel_rfl) (NP.th (NP.th NP.body)) (by kernel_rfl) (by kernel_rfl) rfl rfl rfl (cB h_13) (PO.leq rfl rfl) <| jL 12 rfl (ji (v := .bool (decide (((d.l.getD (1 - q) o0).t.seq) ≤ ((d.l.getD q o0).t.seq)))) (cB h_13) rfl) <| jL 13 rfl (jD (v := .bool (decide (((d.l.getD (1 - q) o0).t.seq) ≤ ((d.l.getD q o0).t.seq)))) rfl) ?_
    by_cases h_16 : ((d.l.getD (1 - q) o0).t.seq) ≤ ((d.l.getD q o0).t.seq)
    · refine jd 14 (b := true) rfl (by kernel_rfl) (NP.th (NP.th NP.body)) (by kernel_rfl) (by kernel_rfl) rfl rfl rfl (cB (dT h_16)) <| jd 15 (b := true) rfl (by kernel_rfl) (NP.th (NP.th NP.body)) (by kernel_rfl) (by kernel_rfl) rfl rfl rfl (cB (dT h_16)) <| jd 16 (b := true) rfl (by kernel_rfl) (NP.th (NP.th NP.body)) (by kernel_rfl) (by kernel_rfl) rfl rfl rfl (cB (dT h_16)) <| jd 17 (b := true) rfl (by kernel_rfl) (NP.th (NP.th NP.body)) (by kernel_rfl) (by kernel_rfl) rfl rfl rfl (cB (dT h_16)) <| jL 18 rfl (jh (v := .bool true) (cB (dT h_16)) rfl) <| jL 19 rfl (jD (v := .bool true) rfl) <| jd 20 (b := true) rfl (by kernel_rfl) (NP.th (NP.th NP.body)) (by kernel_rfl) (by kernel_rfl) rfl rfl rfl (cB rfl) <| jd 21 (b := true) rfl (by kernel_rfl) (NP.th (NP.th NP.body)) (by kernel_rfl) (by kernel_rfl) rfl rfl rfl (cB rfl) <| jd 22 (b := true) rfl (by kernel_rfl) (NP.th (NP.th NP.body)) (by kernel_rfl) (by kernel_rfl) rfl rfl rfl (cB rfl) <| jd 23 (b := true) rfl (by kernel_rfl) (NP.th (NP.th NP.body)) (by kernel_rfl) (by kernel_rfl) rfl rfl rfl (cB rfl) ?_
      refine jL 24 rfl (jh (v := .bool true) (cB rfl) rfl) <| kI (by kernel_rfl) <| jB <| jW (cB rfl) <| jC <| jF <| jK (jO 1 (vs := [.slice y_5.a y_5.l.length y_5.c, str y_5.jt, iv y_5.js]) rfl rfl ke kd rfl rfl) ?_
      refine jH rfl (ja 3 (vs := [.slice y_5.a y_5.l.length y_5.c, str y_5.jt, iv y_5.js]) (cs' := [.slice y_5.a y_5.l.length y_5.c, str y_5.jt, iv y_5.js]) rfl rfl rfl rfl kd rfl rfl (lb rfl) rfl) ?_
      rintro _ _ rfl
      refine jA (jG (v := .bool false) rfl) <| jE <| jB <| jN <| jX <| kM (pick_perm [2] (A := [Res.rows (rdsD y_5)]) (F := [bk b_12 60 [iv ((d.l.getD (1 - q) o0).t.seq), .slice ((d.l.getD (1 - q) o0).x.a0) ((d.l.getD (1 - q) o0).t.cells.length) ((d.l.getD (1 - q) o0).x.c0), .bool ((d.l.getD (1 - q) o0).t.whole)], bk b_7 31 [.slice y_5.a y_5.l.length y_5.c, str y_5.jt, iv y_5.js], bk b_4 31 [.slice y_5.a y_5.l.length y_5.c, str y_5.jt, iv y_5.js], bk b_3 31 [.slice d.a d.l.length d.c, str d.jt, iv d.js]]) rfl).symm <| kC (.inl rfl) rfl (kA (jO 3 (vs := [.slice y_5.a y_5.l.length y_5.c, str y_5.jt, iv y_5.js]) rfl rfl ke kd rfl rfl) ⟨_, rfl⟩) (jJ (v := .bool false) rfl) (tS 1 _) ?_
      have hoth : othD d.dat = (d.l.getD (1 - q) o0).t := by rw [othD, hq, Int.toNat_natCast]; exact getD_map'
      have he := foldE_no (d := d.dat) (by rw [hoth]; rintro ⟨h_1, h_2, h_3, h_4, h_5⟩; first | omega | simp_all)
      exact ⟨y_5, (hy_6).trans (congrArg Prod.fst he).symm, by rw [he], rfl⟩
    refine jg 14 rfl (by kernel_rfl) (NP.th (NP.th NP.body)) (by kernel_rfl) (by kernel_rfl) rfl rfl rfl (cB (dF h_16)) (jQ fo60_0 rfl) <| kK 15 rfl (by kernel_rfl) (NP.th (NP.th NP.body)) (by kernel_rfl) (by kernel_rfl) (by kernel_rfl) rfl rfl rfl (cB (dF h_16)) (jZ 0 (v := iv ((d.l.getD (1 - q) o0).t.seq)) rfl rfl kq rfl) <| jj (i := 16) ?_
    refine kQ rfl rfl rfl rfl (cB (dF h_16)) (jI [] Tryz.call76 rfl (Y_within ((d.l.getD (1 - q) o0).t.seq) 0 99999) rfl (fun _ _ => trivial)) ?_
    rintro _ _ ⟨_, ⟨rfl, rfl⟩, rfl⟩
    refine ⟨by simp, ?_⟩
    refine jg 17 rfl (by kernel_rfl) (NP.th (NP.th NP.body)) (by kernel_rfl) (by kernel_rfl) rfl rfl rfl (cB (dF h_16)) (jp rfl) <| jL 18 rfl (ji (v := .bool (!(within 0 ((d.l.getD (1 - q) o0).t.seq) 99999))) (cB (dF h_16)) rfl) <| jL 19 rfl (jD (v := .bool (!(within 0 ((d.l.getD (1 - q) o0).t.seq) 99999))) rfl) ?_
    rcases Bool.eq_false_or_eq_true (within 0 ((d.l.getD (1 - q) o0).t.seq) 99999) with h_17 | h_17
    · refine jg 20 rfl (by kernel_rfl) (NP.th (NP.th NP.body)) (by kernel_rfl) (by kernel_rfl) rfl rfl rfl (cB (cN h_17)) (jQ fo60_1 rfl) <| kK 21 rfl (by kernel_rfl) (NP.th (NP.th NP.body)) (by kernel_rfl) (by kernel_rfl) (by kernel_rfl) rfl rfl rfl (cB (cN h_17)) (jZ 0 (v := .slice ((d.l.getD (1 - q) o0).x.a0) ((d.l.getD (1 - q) o0).t.cells.length) ((d.l.getD (1 - q) o0).x.c0)) rfl rfl kz rfl) <| jj (i := 22) ?_
      refine kQ rfl rfl rfl rfl (cB (cN h_17)) (jI [] Tryz.call85 rfl (Y_implStoreOk (d.l.getD (1 - q) o0).x.a0 ((d.l.getD (1 - q) o0).x.c0) ((d.l.getD (1 - q) o0).t.cells) (hz.k1 _ (List.mem_map_of_mem (getD_mem (d := o0) (by omega)))).k0) rfl (fun w hw => hw.seeOut_ hs_11 nM)) ?_
      rintro _ _ ⟨_, ⟨rfl, rfl⟩, rfl⟩
      refine ⟨by simp, ?_⟩
      refine jg 23 rfl (by kernel_rfl) (NP.th (NP.th NP.body)) (by kernel_rfl) (by kernel_rfl) rfl rfl rfl (cB (cN h_17)) (jp rfl) <| jL 24 rfl (ji (v := .bool (!(storeOk ((d.l.getD (1 - q) o0).t.cells)))) (cB (cN h_17)) rfl) <| kI (by kernel_rfl) <| jB ?_
      rcases Bool.eq_false_or_eq_true (storeOk ((d.l.getD (1 - q) o0).t.cells)) with h_18 | h_18
      · refine jR (cB (cN h_18)) <| jT <| jB <| jC <| kT (L' := [Res.row (.slice y_5.a y_5.l.length y_5.c) 60 3 y_5.l.length (y_5.l.flatMap encO), Res.rows (y_5.l.flatMap rdsO), bk b_12 60 [iv ((d.l.getD (1 - q) o0).t.seq), .slice ((d.l.getD (1 - q) o0).x.a0) ((d.l.getD (1 - q) o0).t.cells.length) ((d.l.getD (1 - q) o0).x.c0), .bool ((d.l.getD (1 - q) o0).t.whole)], bk b_7 31 [.slice y_5.a y_5.l.length y_5.c, str y_5.jt, iv y_5.js], bk b_4 31 [.slice none 0 0, str [], iv 0], bk b_3 31 [.slice d.a d.l.length d.c, str d.jt, iv d.js]]) (fun w hw => hw.headR (r := ⟨.slice y_5.a y_5.l.length y_5.c, 60, 3, y_5.l.length, y_5.l.flatMap encO⟩) (A := y_5.l.flatMap rdsO) 2 rfl) <| jF <| jA (jQ fo31_0 rfl) <| jK (jZ 3 (v := .slice y_5.a y_5.l.length y_5.c) rfl rfl ks rfl) <| jA (jD (v := nv q) rfl) <| jA (kZ (c := ((1 - q : Nat) : Int)) rfl rfl (wr (by omega))) ?_
        refine kN fun hst => ?_
        obtain ⟨hr_19, hr_19b, -⟩ := row_some 0 rfl (by omega) hst
        refine jA (jk (i := (1 - q)) km kj hr_19 hr_19b rfl rfl (by omega)) <| jA (kL fo60_2 hr_19 rfl) ?_
        refine jH rfl (JO.storeR 0 (vs := [.bool true]) (cs' := (y_5.l.set (1 - q) (⟨⟨(y_5.l.getD (1 - q) o0).x.a0, ((y_5.l.getD (1 - q) o0).x.c0)⟩, ⟨(y_5.l.getD (1 - q) o0).t.seq, (y_5.l.getD (1 - q) o0).t.cells, true⟩⟩ : OX)).flatMap encO) rfl rfl rfl rfl Tryz.sizeOf4 rfl rfl (by decide) (by rw [flat_length encO_len]; omega) (flat_set1 encO_len o0 (f := 2) (y := (⟨⟨(y_5.l.getD (1 - q) o0).x.a0, ((y_5.l.getD (1 - q) o0).x.c0)⟩, ⟨(y_5.l.getD (1 - q) o0).t.seq, (y_5.l.getD (1 - q) o0).t.cells, true⟩⟩ : OX)) (by omega) (by decide) rfl)) ?_
        rintro _ _ rfl
        refine jE <| jB <| jC <| jF <| jK (jO 3 (vs := [.slice y_5.a y_5.l.length y_5.c, str y_5.jt, iv y_5.js]) rfl rfl ke kd rfl rfl) ?_
        refine jH rfl (ja 4 (vs := [.slice y_5.a y_5.l.length y_5.c, str y_5.jt, iv y_5.js]) (cs' := [.slice y_5.a y_5.l.length y_5.c, str y_5.jt, iv y_5.js]) rfl rfl rfl rfl kd rfl rfl (lb rfl) rfl) ?_
        rintro _ _ rfl
        refine jA (jG (v := .bool true) rfl) <| jE <| jB <| jN <| ju (L' := [Res.rows ((y_5.l.set (1 - q) (⟨⟨(y_5.l.getD (1 - q) o0).x.a0, ((y_5.l.getD (1 - q) o0).x.c0)⟩, ⟨(y_5.l.getD (1 - q) o0).t.seq, (y_5.l.getD (1 - q) o0).t.cells, true⟩⟩ : OX)).flatMap rdsO), Res.row (.slice y_5.a y_5.l.length y_5.c) 60 3 y_5.l.length ((y_5.l.set (1 - q) (⟨⟨(y_5.l.getD (1 - q) o0).x.a0, ((y_5.l.getD (1 - q) o0).x.c0)⟩, ⟨(y_5.l.getD (1 - q) o0).t.seq, (y_5.l.getD (1 - q) o0).t.cells, true⟩⟩ : OX)).flatMap encO), bk b_12 60 [iv ((d.l.getD (1 - q) o0).t.seq), .slice ((d.l.getD (1 - q) o0).x.a0) ((d.l.getD (1 - q) o0).t.cells.length) ((d.l.getD (1 - q) o0).x.c0), .bool ((d.l.getD (1 - q) o0).t.whole)], bk b_7 31 [.slice y_5.a y_5.l.length y_5.c, str y_5.jt, iv y_5.js], bk b_4 31 [.slice y_5.a y_5.l.length y_5.c, str y_5.jt, iv y_5.js], bk b_3 31 [.slice d.a d.l.length d.c, str d.jt, iv d.js]]) (fun w hw => hw.rowsEq 1 (A := y_5.l.flatMap rdsO) (B := (y_5.l.set (1 - q) (⟨⟨(y_5.l.getD (1 - q) o0).x.a0, ((y_5.l.getD (1 - q) o0).x.c0)⟩, ⟨(y_5.l.getD (1 - q) o0).t.seq, (y_5.l.getD (1 - q) o0).t.cells, true⟩⟩ : OX)).flatMap rdsO) (F := [Res.row (.slice y_5.a y_5.l.length y_5.c) 60 3 y_5.l.length ((y_5.l.set (1 - q) (⟨⟨(y_5.l.getD (1 - q) o0).x.a0, ((y_5.l.getD (1 - q) o0).x.c0)⟩, ⟨(y_5.l.getD (1 - q) o0).t.seq, (y_5.l.getD (1 - q) o0).t.cells, true⟩⟩ : OX)).flatMap encO), bk b_12 60 [iv ((d.l.getD (1 - q) o0).t.seq), .slice ((d.l.getD (1 - q) o0).x.a0) ((d.l.getD (1 - q) o0).t.cells.length) ((d.l.getD (1 - q) o0).x.c0), .bool ((d.l.getD (1 - q) o0).t.whole)], bk b_7 31 [.slice y_5.a y_5.l.length y_5.c, str y_5.jt, iv y_5.js], bk b_4 31 [.slice y_5.a y_5.l.length y_5.c, str y_5.jt, iv y_5.js], bk b_3 31 [.slice d.a d.l.length d.c, str d.jt, iv d.js]]) rfl (flatMap_sameO (l := y_5.l) (i := 1 - q) (x := (⟨⟨(y_5.l.getD (1 - q) o0).x.a0, ((y_5.l.getD (1 - q) o0).x.c0)⟩, ⟨(y_5.l.getD (1 - q) o0).t.seq, (y_5.l.getD (1 - q) o0).t.cells, true⟩⟩ : OX)) (by omega) rfl).symm) <| ju (L' := [Res.rows ((y_5.l.set (1 - q) (⟨⟨(y_5.l.getD (1 - q) o0).x.a0, ((y_5.l.getD (1 - q) o0).x.c0)⟩, ⟨(y_5.l.getD (1 - q) o0).t.seq, (y_5.l.getD (1 - q) o0).t.cells, true⟩⟩ : OX)).flatMap rdsO), Res.row (.slice y_5.a ((y_5.l.set (1 - q) (⟨⟨(y_5.l.getD (1 - q) o0).x.a0, ((y_5.l.getD (1 - q) o0).x.c0)⟩, ⟨(y_5.l.getD (1 - q) o0).t.seq, (y_5.l.getD (1 - q) o0).t.cells, true⟩⟩ : OX)).length) y_5.c) 60 3 ((y_5.l.set (1 - q) (⟨⟨(y_5.l.getD (1 - q) o0).x.a0, ((y_5.l.getD (1 - q) o0).x.c0)⟩, ⟨(y_5.l.getD (1 - q) o0).t.seq, (y_5.l.getD (1 - q) o0).t.cells, true⟩⟩ : OX)).length) ((y_5.l.set (1 - q) (⟨⟨(y_5.l.getD (1 - q) o0).x.a0, ((y_5.l.getD (1 - q) o0).x.c0)⟩, ⟨(y_5.l.getD (1 - q) o0).t.seq, (y_5.l.getD (1 - q) o0).t.cells, true⟩⟩ : OX)).flatMap encO), bk b_12 60 [iv ((d.l.getD (1 - q) o0).t.seq), .slice ((d.l.getD (1 - q) o0).x.a0) ((d.l.getD (1 - q) o0).t.cells.length) ((d.l.getD (1 - q) o0).x.c0), .bool ((d.l.getD (1 - q) o0).t.whole)], bk b_7 31 [.slice y_5.a y_5.l.length y_5.c, str y_5.jt, iv y_5.js], bk b_4 31 [.slice y_5.a y_5.l.length y_5.c, str y_5.jt, iv y_5.js], bk b_3 31 [.slice d.a d.l.length d.c, str d.jt, iv d.js]]) (fun w hw => hw.eqL (by simp only [List.length_set])) <| ju (L' := [Res.rows (rdsOS y_5.a y_5.c (y_5.l.set (1 - q) (⟨⟨(y_5.l.getD (1 - q) o0).x.a0, ((y_5.l.getD (1 - q) o0).x.c0)⟩, ⟨(y_5.l.getD (1 - q) o0).t.seq, (y_5.l.getD (1 - q) o0).t.cells, true⟩⟩ : OX))), bk b_12 60 [iv ((d.l.getD (1 - q) o0).t.seq), .slice ((d.l.getD (1 - q) o0).x.a0) ((d.l.getD (1 - q) o0).t.cells.length) ((d.l.getD (1 - q) o0).x.c0), .bool ((d.l.getD (1 - q) o0).t.whole)], bk b_7 31 [.slice y_5.a y_5.l.length y_5.c, str y_5.jt, iv y_5.js], bk b_4 31 [.slice y_5.a y_5.l.length y_5.c, str y_5.jt, iv y_5.js], bk b_3 31 [.slice d.a d.l.length d.c, str d.jt, iv d.js]]) (fun w hw => hw.consR (r := ⟨.slice y_5.a ((y_5.l.set (1 - q) (⟨⟨(y_5.l.getD (1 - q) o0).x.a0, ((y_5.l.getD (1 - q) o0).x.c0)⟩, ⟨(y_5.l.getD (1 - q) o0).t.seq, (y_5.l.getD (1 - q) o0).t.cells, true⟩⟩ : OX)).length) y_5.c, 60, 3, (y_5.l.set (1 - q) (⟨⟨(y_5.l.getD (1 - q) o0).x.a0, ((y_5.l.getD (1 - q) o0).x.c0)⟩, ⟨(y_5.l.getD (1 - q) o0).t.seq, (y_5.l.getD (1 - q) o0).t.cells, true⟩⟩ : OX)).length, (y_5.l.set (1 - q) (⟨⟨(y_5.l.getD (1 - q) o0).x.a0, ((y_5.l.getD (1 - q) o0).x.c0)⟩, ⟨(y_5.l.getD (1 - q) o0).t.seq, (y_5.l.getD (1 - q) o0).t.cells, true⟩⟩ : OX)).flatMap encO⟩) (A := (y_5.l.set (1 - q) (⟨⟨(y_5.l.getD (1 - q) o0).x.a0, ((y_5.l.getD (1 - q) o0).x.c0)⟩, ⟨(y_5.l.getD (1 - q) o0).t.seq, (y_5.l.getD (1 - q) o0).t.cells, true⟩⟩ : OX)).flatMap rdsO) [1, 0] rfl) <| kC (.inl rfl) rfl (kA (jO 3 (vs := [.slice y_5.a y_5.l.length y_5.c, str y_5.jt, iv y_5.js]) rfl rfl ke kd rfl rfl) ⟨_, rfl⟩) (jJ (v := .bool true) rfl) (tS 1 _) ?_
        have hoth : othD d.dat = (d.l.getD (1 - q) o0).t := by rw [othD, hq, Int.toNat_natCast]; exact getD_map'
        have he := foldE_yes (d := d.dat) (by rw [hoth]; exact ⟨h_8, by assumption, by omega, by assumption, by assumption⟩)
        rw [hoth] at he
        refine ⟨(⟨y_5.a, y_5.c, y_5.l.set (1 - q) (⟨⟨(y_5.l.getD (1 - q) o0).x.a0, ((y_5.l.getD (1 - q) o0).x.c0)⟩, ⟨(y_5.l.getD (1 - q) o0).t.seq, (y_5.l.getD (1 - q) o0).t.cells, true⟩⟩ : OX), y_5.jt, y_5.js⟩ : DX), ?_, by simp only [he, List.length_set], rfl⟩
        rw [he]
        have hg : (y_5.l.getD (1 - q) o0).t = (d.l.getD (1 - q) o0).t := getM_eq (f := OX.t) o0 (congrArg DD.slots hy_6) (by omega) hyl
        exact fold_dat (congrArg DD.slots hy_6) (congrArg DD.jt hy_6) (congrArg DD.js hy_6) hq (by rw [← hg])
      refine jW (cB (cN h_18)) <| jC <| jF <| jK (jO 1 (vs := [.slice y_5.a y_5.l.length y_5.c, str y_5.jt, iv y_5.js]) rfl rfl ke kd rfl rfl) ?_
      refine jH rfl (ja 3 (vs := [.slice y_5.a y_5.l.length y_5.c, str y_5.jt, iv y_5.js]) (cs' := [.slice y_5.a y_5.l.length y_5.c, str y_5.jt, iv y_5.js]) rfl rfl rfl rfl kd rfl rfl (lb rfl) rfl) ?_
      rintro _ _ rfl
      refine jA (jG (v := .bool false) rfl) <| jE <| jB <| jN <| jX <| kM (pick_perm [2] (A := [Res.rows (rdsD y_5)]) (F := [bk b_12 60 [iv ((d.l.getD (1 - q) o0).t.seq), .slice ((d.l.getD (1 - q) o0).x.a0) ((d.l.getD (1 - q) o0).t.cells.length) ((d.l.getD (1 - q) o0).x.c0), .bool ((d.l.getD (1 - q) o0).t.whole)], bk b_7 31 [.slice y_5.a y_5.l.length y_5.c, str y_5.jt, iv y_5.js], bk b_4 31 [.slice y_5.a y_5.l.length y_5.c, str y_5.jt, iv y_5.js], bk b_3 31 [.slice d.a d.l.length d.c, str d.jt, iv d.js]]) rfl).symm <| kC (.inl rfl) rfl (kA (jO 3 (vs := [.slice y_5.a y_5.l.length y_5.c, str y_5.jt, iv y_5.js]) rfl rfl ke kd rfl rfl) ⟨_, rfl⟩) (jJ (v := .bool false) rfl) (tS 1 _) ?_
      have hoth : othD d.dat = (d.l.getD (1 - q) o0).t := by rw [othD, hq, Int.toNat_natCast]; exact getD_map'
      have he := foldE_no (d := d.dat) (by rw [hoth]; rintro ⟨h_1, h_2, h_3, h_4, h_5⟩; first | omega | simp_all)
      exact ⟨y_5, (hy_6).trans (congrArg Prod.fst he).symm, by rw [he], rfl⟩
    refine jd 20 (b := true) rfl (by kernel_rfl) (NP.th (NP.th NP.body)) (by kernel_rfl) (by kernel_rfl) rfl rfl rfl (cB (cN h_17)) <| jd 21 (b := true) rfl (by kernel_rfl) (NP.th (NP.th NP.body)) (by kernel_rfl) (by kernel_rfl) rfl rfl rfl (cB (cN h_17)) <| jd 22 (b := true) rfl (by kernel_rfl) (NP.th (NP.th NP.body)) (by kernel_rfl) (by kernel_rfl) rfl rfl rfl (cB (cN h_17)) <| jd 23 (b := true) rfl (by kernel_rfl) (NP.th (NP.th NP.body)) (by kernel_rfl) (by kernel_rfl) rfl rfl rfl (cB (cN h_17)) <| jL 24 rfl (jh (v := .bool true) (cB (cN h_17)) rfl) <| kI (by kernel_rfl) <| jB <| jW (cB rfl) <| jC <| jF ?_
    refine jK (jO 1 (vs := [.slice y_5.a y_5.l.length y_5.c, str y_5.jt, iv y_5.js]) rfl rfl ke kd rfl rfl) ?_
    refine jH rfl (ja 3 (vs := [.slice y_5.a y_5.l.length y_5.c, str y_5.jt, iv y_5.js]) (cs' := [.slice y_5.a y_5.l.length y_5.c, str y_5.jt, iv y_5.js]) rfl rfl rfl rfl kd rfl rfl (lb rfl) rfl) ?_
    rintro _ _ rfl
    refine jA (jG (v := .bool false) rfl) <| jE <| jB <| jN <| jX <| kM (pick_perm [2] (A := [Res.rows (rdsD y_5)]) (F := [bk b_12 60 [iv ((d.l.getD (1 - q) o0).t.seq), .slice ((d.l.getD (1 - q) o0).x.a0) ((d.l.getD (1 - q) o0).t.cells.length) ((d.l.getD (1 - q) o0).x.c0), .bool ((d.l.getD (1 - q) o0).t.whole)], bk b_7 31 [.slice y_5.a y_5.l.length y_5.c, str y_5.jt, iv y_5.js], bk b_4 31 [.slice y_5.a y_5.l.length y_5.c, str y_5.jt, iv y_5.js], bk b_3 31 [.slice d.a d.l.length d.c, str d.jt, iv d.js]]) rfl).symm <| kC (.inl rfl) rfl (kA (jO 3 (vs := [.slice y_5.a y_5.l.length y_5.c, str y_5.jt, iv y_5.js]) rfl rfl ke kd rfl rfl) ⟨_, rfl⟩) (jJ (v := .bool false) rfl) (tS 1 _) ?_
    have hoth : othD d.dat = (d.l.getD (1 - q) o0).t := by rw [othD, hq, Int.toNat_natCast]; exact getD_map'
    have he := foldE_no (d := d.dat) (by rw [hoth]; rintro ⟨h_1, h_2, h_3, h_4, h_5⟩; first | omega | simp_all)
    exact ⟨y_5, (hy_6).trans (congrArg Prod.fst he).symm, by rw [he], rfl⟩
  refine jW (cB (cN h_8)) <| jC <| jF <| jK (jO 0 (vs := [.slice y_5.a y_5.l.length y_5.c, str y_5.jt, iv y_5.js]) rfl rfl ke kd rfl rfl) ?_
  refine jH rfl (ja 2 (vs := [.slice y_5.a y_5.l.length y_5.c, str y_5.jt, iv y_5.js]) (cs' := [.slice y_5.a y_5.l.length y_5.c, str y_5.jt, iv y_5.js]) rfl rfl rfl rfl kd rfl rfl (lb rfl) rfl) ?_
  rintro _ _ rfl
  refine jA (jG (v := .bool false) rfl) <| jE <| jB <| jN <| jX <| kM (pick_perm [1] (A := [Res.rows (rdsD y_5)]) (F := [bk b_7 31 [.slice y_5.a y_5.l.length y_5.c, str y_5.jt, iv y_5.js], bk b_4 31 [.slice y_5.a y_5.l.length y_5.c, str y_5.jt, iv y_5.js], bk b_3 31 [.slice d.a d.l.length d.c, str d.jt, iv d.js]]) rfl).symm <| kC (.inl rfl) rfl (kA (jO 2 (vs := [.slice y_5.a y_5.l.length y_5.c, str y_5.jt, iv y_5.js]) rfl rfl ke kd rfl rfl) ⟨_, rfl⟩) (jJ (v := .bool false) rfl) (tS 1 _) ?_
  have he := foldE_no (d := d.dat) (by rintro ⟨h_1, h_2, h_3, h_4, h_5⟩; first | omega | simp_all)
  exact ⟨y_5, (hy_6).trans (congrArg Prod.fst he).symm, by rw [he], rfl⟩

set_option maxRecDepth 4000 in
set_option maxHeartbeats 1000000 in
theorem Y_iFolded (d : DX) (hz : d.dat.okz) (hl : d.dat.lim 1000000000) :
    Ct Tryz.prog 23 [.agg #[.slice d.a d.l.length d.c, str d.jt, .int .i64 d.js]] [] (fun w => SeesA w (rdsD d) ∧ HexOk w) (fun v A' => ∃ y : DX, y.dat = d.dat.folded.1 ∧ v = .tuple #[.agg #[.slice y.a y.l.length y.c, str y.jt, .int .i64 y.js], .bool d.dat.folded.2] ∧ A' = [.rows (rdsD y)]) := by
  refine Ct.introL Tryz.func23 rfl Tryz.ntmps23 (lb rfl) fun w0 hpre hlow => ?_
  have hs_1 : Sees w0 (.slice d.a d.l.length d.c) 3 d.l.length (d.l.flatMap encO) := (hpre.1).head
  have hi_2 : SeesA w0 (d.l.flatMap rdsO) := (hpre.1).tail
  have hjt := hz.k2
  have hdl : d.l.length ≤ 1000000000 := by have := hl.l0; simpa only [DX.dat, List.length_map] using this
  refine jC <| jF ?_
  refine jH rfl (kG (cs := [.slice d.a d.l.length d.c, str d.jt, iv d.js]) rfl rfl) ?_
  rintro _ _ ⟨b_3, rfl, rfl⟩
  refine jH rfl (jo (z := .agg #[.slice none 0 0, str [], iv 0]) (cs := [.slice none 0 0, str [], iv 0]) ko rfl) ?_
  rintro _ _ ⟨b_4, rfl, rfl⟩
  refine jA (jG (v := .bool false) rfl) <| jE <| jB <| jC <| jF <| jK (jO 1 (vs := [.slice d.a d.l.length d.c, str d.jt, iv d.js]) rfl rfl ke kd rfl rfl) ?_
  refine jH rfl (jI [] Tryz.call21 rfl (Y_iFoldB d hz hl) rfl (fun w hw => ⟨hw.seeOutA hpre.1 nMA, hw.hex hlow hpre.2⟩)) ?_
  rintro _ _ ⟨_, ⟨y_5, hy_6, rfl, rfl⟩, rfl⟩
  have hz_7 : y_5.dat.okz := by rw [hy_6]; exact foldB_okz hz
  have hl_8 : y_5.dat.lim 1000000000 := by rw [hy_6]; exact foldB_lim hz hl (by decide)
  refine jA (jD (v := .tuple #[.agg #[.slice y_5.a y_5.l.length y_5.c, str y_5.jt, iv y_5.js], .bool ((d.dat.foldB).2)]) rfl) <| jA (je (v := .agg #[.slice y_5.a y_5.l.length y_5.c, str y_5.jt, iv y_5.js]) rfl rfl) <| jA (je (v := .bool ((d.dat.foldB).2)) rfl rfl) ?_
  refine jH rfl (jo (z := .agg #[.slice none 0 0, str [], iv 0]) (cs := [.slice none 0 0, str [], iv 0]) ko rfl) ?_
  rintro _ _ ⟨b_9, rfl, rfl⟩
  refine jH rfl (ja 0 (vs := [.slice y_5.a y_5.l.length y_5.c, str y_5.jt, iv y_5.js]) (cs' := [.slice y_5.a y_5.l.length y_5.c, str y_5.jt, iv y_5.js]) rfl rfl rfl rfl kd rfl rfl (lb rfl) rfl) ?_
  rintro _ _ rfl
  refine jA (jG (v := .bool ((d.dat.foldB).2)) rfl) <| jE <| jB <| jC <| jF <| jK (jO 0 (vs := [.slice y_5.a y_5.l.length y_5.c, str y_5.jt, iv y_5.js]) rfl rfl ke kd rfl rfl) ?_
  refine jH rfl (jI [] Tryz.call32 rfl (Y_iFoldE y_5 hz_7 hl_8) rfl (fun w hw => hw.seeRows 1 rfl)) ?_
  rintro _ _ ⟨_, ⟨y_10, hy_11, rfl, rfl⟩, rfl⟩
  have hz_12 : y_10.dat.okz := by rw [hy_11]; exact foldE_okz hz_7
  have hl_13 : y_10.dat.lim 1000000000 := by rw [hy_11]; exact foldE_lim hl_8
  refine jA (jD (v := .tuple #[.agg #[.slice y_10.a y_10.l.length y_10.c, str y_10.jt, iv y_10.js], .bool ((y_5.dat.foldE).2)]) rfl) <| jA (je (v := .agg #[.slice y_10.a y_10.l.length y_10.c, str y_10.jt, iv y_10.js]) rfl rfl) <| jA (je (v := .bool ((y_5.dat.foldE).2)) rfl rfl) ?_
  refine jH rfl (jo (z := .agg #[.slice none 0 0, str [], iv 0]) (cs := [.slice none 0 0, str [], iv 0]) ko rfl) ?_
  rintro _ _ ⟨b_14, rfl, rfl⟩
  refine jH rfl (ja 0 (vs := [.slice y_10.a y_10.l.length y_10.c, str y_10.jt, iv y_10.js]) (cs' := [.slice y_10.a y_10.l.length y_10.c, str y_10.jt, iv y_10.js]) rfl rfl rfl rfl kd rfl rfl (lb rfl) rfl) ?_
  rintro _ _ rfl
  refine jA (jG (v := .bool ((y_5.dat.foldE).2)) rfl) <| jE <| jB <| jC <| jC <| jF <| jA (jD (v := .bool ((d.dat.foldB).2)) rfl) <| jA (jp rfl) <| jA (jD (v := .bool (!((d.dat.foldB).2))) rfl) ?_
  rcases Bool.eq_false_or_eq_true ((d.dat.foldB).2) with h_15 | h_15
  · refine jM rfl rfl rfl (cB (cN h_15)) (jP (jU (jD (v := .bool ((y_5.dat.foldE).2)) rfl))) ?_
    rintro _ _ ⟨rfl, rfl⟩
    refine jM rfl rfl rfl (cB (cN h_15)) (jP (jU (jp rfl))) ?_
    rintro _ _ ⟨rfl, rfl⟩
    refine jA (ji (v := .bool (!((y_5.dat.foldE).2))) (cB (cN h_15)) rfl) <| jE <| jB ?_
    rcases Bool.eq_false_or_eq_true ((y_5.dat.foldE).2) with h_16 | h_16
    · refine jR (cB (cN h_16)) <| jT <| jB <| jC <| jF <| jK (jO 0 (vs := [.slice y_10.a y_10.l.length y_10.c, str y_10.jt, iv y_10.js]) rfl rfl ke kd rfl rfl) ?_
      refine jH rfl (jI [] Tryz.call14 rfl (Y_iTrim y_10 hz_12 hl_13) rfl (fun w hw => ⟨hw.seeRows 1 rfl, hw.hex hlow hpre.2⟩)) ?_
      rintro _ _ ⟨_, ⟨y_17, hy_18, rfl, rfl⟩, rfl⟩
      refine jH rfl (ja 5 (vs := [.slice y_17.a y_17.l.length y_17.c, str y_17.jt, iv y_17.js]) (cs' := [.slice y_17.a y_17.l.length y_17.c, str y_17.jt, iv y_17.js]) rfl rfl rfl rfl kd rfl rfl (lb rfl) rfl) ?_
      rintro _ _ rfl
      refine jA (jG (v := .bool true) rfl) <| jE <| jB <| jN <| kC (.inl rfl) rfl (kA (jO 5 (vs := [.slice y_17.a y_17.l.length y_17.c, str y_17.jt, iv y_17.js]) rfl rfl ke kd rfl rfl) ⟨_, rfl⟩) (jJ (v := .bool true) rfl) (tS 1 _) ?_
      have he := folded_yes (d := d.dat) (by constructor <;> simp_all)
      exact ⟨y_17, by rw [he, hy_18]; simp_all, by rw [he], rfl⟩
    refine jW (cB (cN h_16)) <| jC <| jF <| jK (jO 5 (vs := [.slice d.a d.l.length d.c, str d.jt, iv d.js]) rfl rfl ke kd rfl rfl) ?_
    refine jH rfl (jI [] Tryz.call62 rfl (Z_implDiskclone d hl) rfl (fun w hw => hw.seeOutA hpre.1 nMA)) ?_
    rintro _ _ ⟨_, ⟨y_19, hy_20, rfl, rfl⟩, rfl⟩
    refine jH rfl (ja 5 (vs := [.slice y_19.a y_19.l.length y_19.c, str y_19.jt, iv y_19.js]) (cs' := [.slice y_19.a y_19.l.length y_19.c, str y_19.jt, iv y_19.js]) rfl rfl rfl rfl kd rfl rfl (lb rfl) rfl) ?_
    rintro _ _ rfl
    refine jA (jG (v := .bool false) rfl) <| jE <| jB <| jN <| jX <| kC (.inl rfl) rfl (kA (jO 5 (vs := [.slice y_19.a y_19.l.length y_19.c, str y_19.jt, iv y_19.js]) rfl rfl ke kd rfl rfl) ⟨_, rfl⟩) (jJ (v := .bool false) rfl) (tS 1 _) ?_
    have he := folded_no (d := d.dat) (by rintro ⟨h_1, h_2⟩; simp_all)
    exact ⟨y_19, by rw [he, hy_20] <;> first | rfl | exact foldB_back (by assumption), by rw [he], rfl⟩
  refine jS (b := true) rfl rfl rfl (cB (cN h_15)) <| jS (b := true) rfl rfl rfl (cB (cN h_15)) <| jA (jh (v := .bool true) (cB (cN h_15)) rfl) <| jE <| jB <| jW (cB rfl) <| jC <| jF <| jK (jO 5 (vs := [.slice d.a d.l.length d.c, str d.jt, iv d.js]) rfl rfl ke kd rfl rfl) ?_
  refine jH rfl (jI [] Tryz.call62 rfl (Z_implDiskclone d hl) rfl (fun w hw => hw.seeOutA hpre.1 nMA)) ?_
  rintro _ _ ⟨_, ⟨y_21, hy_22, rfl, rfl⟩, rfl⟩
  refine jH rfl (ja 5 (vs := [.slice y_21.a y_21.l.length y_21.c, str y_21.jt, iv y_21.js]) (cs' := [.slice y_21.a y_21.l.length y_21.c, str y_21.jt, iv y_21.js]) rfl rfl rfl rfl kd rfl rfl (lb rfl) rfl) ?_
  rintro _ _ rfl
  refine jA (jG (v := .bool false) rfl) <| jE <| jB <| jN <| jX <| kC (.inl rfl) rfl (kA (jO 5 (vs := [.slice y_21.a y_21.l.length y_21.c, str y_21.jt, iv y_21.js]) rfl rfl ke kd rfl rfl) ⟨_, rfl⟩) (jJ (v := .bool false) rfl) (tS 1 _) ?_
  have he := folded_no (d := d.dat) (by rintro ⟨h_1, h_2⟩; simp_all)
  exact ⟨y_21, by rw [he, hy_22] <;> first | rfl | exact foldB_back (by assumption), by rw [he], rfl⟩

set_option maxRecDepth 4000 in
set_option maxHeartbeats 1000000 in
theorem Y_sOther (d : DX) (hz : d.dat.okz) (hl : d.dat.lim 1000000000) (q : Nat) (hq : bestD d.dat = ((q : Nat) : Int)) (hq2 : q < 2) :
    Ct Tryz.prog 71 [.agg #[.slice d.a d.l.length d.c, str d.jt, .int .i64 d.js]] [] (fun w => SeesA w (rdsD d)) (fun v A' => v = .int .i64 ((1 - q : Nat) : Int) ∧ A' = []) := by
  refine Ct.intro Tryz.func71 rfl Tryz.ntmps71 (lb rfl) fun w0 hpre => ?_
  have hs_1 : Sees w0 (.slice d.a d.l.length d.c) 3 d.l.length (d.l.flatMap encO) := (hpre).head
  have hi_2 : SeesA w0 (d.l.flatMap rdsO) := (hpre).tail
  have hjt := hz.k2
  have hdl : d.l.length ≤ 1000000000 := by have := hl.l0; simpa only [DX.dat, List.length_map] using this
  refine jC <| jF ?_
  refine jH rfl (kG (cs := [.slice d.a d.l.length d.c, str d.jt, iv d.js]) rfl rfl) ?_
  rintro _ _ ⟨b_3, rfl, rfl⟩
  refine jA (jG (v := iv 0) rfl) <| jE <| jB <| jC <| jF <| jK (jO 0 (vs := [.slice d.a d.l.length d.c, str d.jt, iv d.js]) rfl rfl ke kd rfl rfl) ?_
  refine jH rfl (jI [] Tryz.call49 rfl (Y_sBestN d hz (by omega) q hq) rfl (fun w hw => hw.seeOutA hpre nMA)) ?_
  rintro _ _ ⟨_, ⟨rfl, rfl⟩, rfl⟩
  refine jA (kZ (c := ((1 - q : Nat) : Int)) rfl rfl (wr (by omega))) <| jA (jG (v := iv ((1 - q : Nat) : Int)) rfl) <| jE <| jB <| jN <| jV (.inl rfl) rfl (jJ (v := iv ((1 - q : Nat) : Int)) rfl) (List.nil_sublist _) ?_
  exact ⟨rfl, rfl⟩

set_option maxRecDepth 4000 in
set_option maxHeartbeats 1000000 in
theorem Y_sFoldB (d : DX) (hz : d.dat.okz) (hl : d.dat.lim 1000000000) :
    Ct Tryz.prog 20 [.agg #[.slice d.a d.l.length d.c, str d.jt, .int .i64 d.js]] [] (fun w => SeesA w (rdsD d)) (fun v A' => ∃ y : DX, y.dat = d.dat.foldB.1 ∧ v = .tuple #[.agg #[.slice y.a y.l.length y.c, str y.jt, .int .i64 y.js], .bool d.dat.foldB.2] ∧ A' = [.rows (rdsD y)]) := by
  refine Ct.intro Tryz.func20 rfl Tryz.ntmps20 (lb rfl) fun w0 hpre => ?_
  have hs_1 : Sees w0 (.slice d.a d.l.length d.c) 3 d.l.length (d.l.flatMap encO) := (hpre).head
  have hi_2 : SeesA w0 (d.l.flatMap rdsO) := (hpre).tail
  have hjt := hz.k2
  have hdl : d.l.length ≤ 1000000000 := by have := hl.l0; simpa only [DX.dat, List.length_map] using this
  refine jC <| jF ?_
  refine jH rfl (kG (cs := [.slice d.a d.l.length d.c, str d.jt, iv d.js]) rfl rfl) ?_
  rintro _ _ ⟨b_3, rfl, rfl⟩
  refine jH rfl (jo (z := .agg #[.slice none 0 0, str [], iv 0]) (cs := [.slice none 0 0, str [], iv 0]) ko rfl) ?_
  rintro _ _ ⟨b_4, rfl, rfl⟩
  refine jA (jG (v := .bool false) rfl) <| jE <| jB <| jC <| jF <| jK (jO 1 (vs := [.slice d.a d.l.length d.c, str d.jt, iv d.js]) rfl rfl ke kd rfl rfl) ?_
  refine jH rfl (jI [] Tryz.call56 rfl (Z_specl23Copy d hl) rfl (fun w hw => hw.seeOutA hpre nMA)) ?_
  rintro _ _ ⟨_, ⟨y_5, hy_6, rfl, rfl⟩, rfl⟩
  refine jH rfl (ja 2 (vs := [.slice y_5.a y_5.l.length y_5.c, str y_5.jt, iv y_5.js]) (cs' := [.slice y_5.a y_5.l.length y_5.c, str y_5.jt, iv y_5.js]) rfl rfl rfl rfl kd rfl rfl (lb rfl) rfl) ?_
  rintro _ _ rfl
  refine jE <| jB <| jC ?_
  have hzy : y_5.dat.okz := by rw [hy_6]; exact hz
  have hly : y_5.dat.lim 1000000000 := by rw [hy_6]; exact hl
  have hyl : y_5.l.length = d.l.length := by have e_ := congrArg (fun q : DD => q.slots.length) hy_6; simpa only [DX.dat, List.length_map] using e_
  have hyt : y_5.jt = d.jt := congrArg DD.jt hy_6
  have hytl : y_5.jt.length = d.jt.length := by rw [hyt]
  refine jF <| jK (jO 2 (vs := [.slice y_5.a y_5.l.length y_5.c, str y_5.jt, iv y_5.js]) rfl rfl ke kd rfl rfl) ?_
  refine jH rfl (jI [] Tryz.call43 rfl (Y_sRecov y_5 hzy hly) rfl (fun w hw => hw.seeRows 0 rfl)) ?_
  rintro _ _ ⟨_, ⟨a_7, c_8, rfl, rfl⟩, rfl⟩
  refine jA (jD (v := .tuple #[.slice a_7 y_5.dat.recov.1.length c_8, iv y_5.dat.recov.2]) rfl) <| jA (je (v := .slice a_7 y_5.dat.recov.1.length c_8) rfl rfl) <| jA (je (v := iv y_5.dat.recov.2) rfl rfl) <| jA (jG (v := .slice a_7 y_5.dat.recov.1.length c_8) rfl) <| jA (jG (v := iv y_5.dat.recov.2) rfl) <| jE <| jB <| jC <| jC <| kT (L' := [Res.row (.slice y_5.a y_5.l.length y_5.c) 60 3 y_5.l.length (y_5.l.flatMap encO), Res.rows (y_5.l.flatMap rdsO), rC a_7 c_8 y_5.dat.recov.1, bk b_4 31 [.slice none 0 0, str [], iv 0], bk b_3 31 [.slice y_5.a y_5.l.length y_5.c, str y_5.jt, iv y_5.js]]) (fun w hw => hw.headR (r := ⟨.slice y_5.a y_5.l.length y_5.c, 60, 3, y_5.l.length, y_5.l.flatMap encO⟩) (A := y_5.l.flatMap rdsO) 1 rfl) ?_
  refine kJ [Res.row (.slice y_5.a y_5.l.length y_5.c) 60 3 y_5.l.length (y_5.l.flatMap encO), Res.rows (y_5.l.flatMap rdsO), rC a_7 c_8 y_5.dat.recov.1, bk b_4 31 [.slice none 0 0, str [], iv 0], bk b_3 31 [.slice y_5.a y_5.l.length y_5.c, str y_5.jt, iv y_5.js]] 1000 mixed (by simp) <| jw 0 rfl (jO 4 (vs := [.slice y_5.a y_5.l.length y_5.c, str y_5.jt, iv y_5.js]) rfl rfl ke kd rfl rfl) <| jj (i := 1) ?_
  refine jz rfl rfl (jI [] Tryz.call42 rfl (Y_specDiskOk y_5 hzy (by omega)) rfl (fun w hw => SeesA.cons (hw.see (i := 0) rfl) (hw.seeRows 1 rfl))) ?_
  rintro _ _ ⟨_, ⟨rfl, rfl⟩, rfl⟩
  refine ⟨by simp, ?_⟩
  refine jL 2 rfl (jp rfl) <| jL 3 rfl (jD (v := .bool (!(diskOk y_5.dat))) rfl) ?_
  rcases Bool.eq_false_or_eq_true (diskOk y_5.dat) with h_9 | h_9
  · obtain ⟨q, hq, hql⟩ := diskOk_best h_9
    have hql : q < y_5.l.length := by simpa only [DX.dat, List.length_map] using hql
    have hjr := diskOk_jour h_9
    have hjr2 : ((y_5.jt.length : Nat) : Int) ≤ 20000 ∧ 0 ≤ y_5.js ∧ y_5.js ≤ ((y_5.jt.length : Nat) : Int) := by have h_ : jourOk y_5.jt y_5.js = true := hjr; simpa only [jourOk, within, Bool.and_eq_true, decide_eq_true_eq, and_assoc] using h_
    have hmost : (y_5.l.getD q o0).t.seq = mostOf y_5.dat := by rw [mostOf, hq, Int.toNat_natCast]; exact congrArg SD.seq getD_map'.symm
    have hmr := most_range h_9
    have hl2 := disk_two h_9
    refine jg 4 rfl (by kernel_rfl) (NP.th (NP.th NP.body)) (by kernel_rfl) (by kernel_rfl) rfl rfl rfl (cB (cN h_9)) (jD (v := iv y_5.dat.recov.2) rfl) <| jg 5 rfl (by kernel_rfl) (NP.th (NP.th NP.body)) (by kernel_rfl) (by kernel_rfl) rfl rfl rfl (cB (cN h_9)) (kR rfl rfl) <| jL 6 rfl (ji (v := .bool (decide (99999 < y_5.dat.recov.2))) (cB (cN h_9)) rfl) <| jL 7 rfl (jD (v := .bool (decide (99999 < y_5.dat.recov.2))) rfl) ?_
    by_cases h_10 : 99999 < y_5.dat.recov.2
    · refine jd 8 (b := true) rfl (by kernel_rfl) (NP.th (NP.th NP.body)) (by kernel_rfl) (by kernel_rfl) rfl rfl rfl (cB (dT h_10)) <| jd 9 (b := true) rfl (by kernel_rfl) (NP.th (NP.th NP.body)) (by kernel_rfl) (by kernel_rfl) rfl rfl rfl (cB (dT h_10)) <| jd 10 (b := true) rfl (by kernel_rfl) (NP.th (NP.th NP.body)) (by kernel_rfl) (by kernel_rfl) rfl rfl rfl (cB (dT h_10)) <| jd 11 (b := true) rfl (by kernel_rfl) (NP.th (NP.th NP.body)) (by kernel_rfl) (by kernel_rfl) rfl rfl rfl (cB (dT h_10)) <| jd 12 (b := true) rfl (by kernel_rfl) (NP.th (NP.th NP.body)) (by kernel_rfl) (by kernel_rfl) rfl rfl rfl (cB (dT h_10)) <| jd 13 (b := true) rfl (by kernel_rfl) (NP.th (NP.th NP.body)) (by kernel_rfl) (by kernel_rfl) rfl rfl rfl (cB (dT h_10)) <| jd 14 (b := true) rfl (by kernel_rfl) (NP.th (NP.th NP.body)) (by kernel_rfl) (by kernel_rfl) rfl rfl rfl (cB (dT h_10)) <| jd 15 (b := true) rfl (by kernel_rfl) (NP.th (NP.th NP.body)) (by kernel_rfl) (by kernel_rfl) rfl rfl rfl (cB (dT h_10)) <| jd 16 (b := true) rfl (by kernel_rfl) (NP.th (NP.th NP.body)) (by kernel_rfl) (by kernel_rfl) rfl rfl rfl (cB (dT h_10)) <| jL 17 rfl (jh (v := .bool true) (cB (dT h_10)) rfl) ?_
      refine kI (by kernel_rfl) <| jB <| jW (cB rfl) <| jC <| jF <| jK (jO 4 (vs := [.slice y_5.a y_5.l.length y_5.c, str y_5.jt, iv y_5.js]) rfl rfl ke kd rfl rfl) ?_
      refine jH rfl (ja 3 (vs := [.slice y_5.a y_5.l.length y_5.c, str y_5.jt, iv y_5.js]) (cs' := [.slice y_5.a y_5.l.length y_5.c, str y_5.jt, iv y_5.js]) rfl rfl rfl rfl kd rfl rfl (lb rfl) rfl) ?_
      rintro _ _ rfl
      refine jA (jG (v := .bool false) rfl) <| jE <| jB <| jN <| jX <| ju (L' := [Res.rows (rdsOS y_5.a y_5.c y_5.l), rC a_7 c_8 y_5.dat.recov.1, bk b_4 31 [.slice y_5.a y_5.l.length y_5.c, str y_5.jt, iv y_5.js], bk b_3 31 [.slice y_5.a y_5.l.length y_5.c, str y_5.jt, iv y_5.js]]) (fun w hw => hw.consR (r := ⟨.slice y_5.a y_5.l.length y_5.c, 60, 3, y_5.l.length, y_5.l.flatMap encO⟩) (A := y_5.l.flatMap rdsO) [0, 0] rfl) <| kC (.inl rfl) rfl (kA (jO 2 (vs := [.slice y_5.a y_5.l.length y_5.c, str y_5.jt, iv y_5.js]) rfl rfl ke kd rfl rfl) ⟨_, rfl⟩) (jJ (v := .bool false) rfl) (tS 1 _) ?_
      have he := foldB_no (d := y_5.dat) (by rintro ⟨h_1, h_2⟩; first | omega | simp_all)
      rw [hy_6] at he
      exact ⟨y_5, (hy_6).trans (congrArg Prod.fst he).symm, by rw [he], rfl⟩
    refine jg 8 rfl (by kernel_rfl) (NP.th (NP.th NP.body)) (by kernel_rfl) (by kernel_rfl) rfl rfl rfl (cB (dF h_10)) (jD (v := iv y_5.dat.recov.2) rfl) <| jg 9 rfl (by kernel_rfl) (NP.th (NP.th NP.body)) (by kernel_rfl) (by kernel_rfl) rfl rfl rfl (cB (dF h_10)) (jQ fo31_0 rfl) <| kK 10 rfl (by kernel_rfl) (NP.th (NP.th NP.body)) (by kernel_rfl) (by kernel_rfl) (by kernel_rfl) rfl rfl rfl (cB (dF h_10)) (jZ 4 (v := .slice y_5.a y_5.l.length y_5.c) rfl rfl ks rfl) <| kK 11 rfl (by kernel_rfl) (NP.th (NP.th NP.body)) (by kernel_rfl) (by kernel_rfl) (by kernel_rfl) rfl rfl rfl (cB (dF h_10)) (jO 4 (vs := [.slice y_5.a y_5.l.length y_5.c, str y_5.jt, iv y_5.js]) rfl rfl ke kd rfl rfl) <| jj (i := 12) ?_
    refine kQ rfl rfl rfl rfl (cB (dF h_10)) (jI [] Tryz.call49 rfl (Y_sBestN y_5 hzy (by omega) q hq) rfl (fun w hw => SeesA.cons (hw.see (i := 0) rfl) (hw.seeRows 1 rfl))) ?_
    rintro _ _ ⟨_, ⟨rfl, rfl⟩, rfl⟩
    refine ⟨by simp, ?_⟩
    refine JA.facts fun hst => ?_
    obtain ⟨hr_11, hr_11b, -⟩ := row_some 0 rfl (by omega) hst
    refine jg 13 rfl (by kernel_rfl) (NP.th (NP.th NP.body)) (by kernel_rfl) (by kernel_rfl) rfl rfl rfl (cB (dF h_10)) (jk (i := q) km kj hr_11 hr_11b rfl rfl (by omega)) <| jg 14 rfl (by kernel_rfl) (NP.th (NP.th NP.body)) (by kernel_rfl) (by kernel_rfl) rfl rfl rfl (cB (dF h_10)) (kL fo60_0 hr_11 rfl) <| kK 15 rfl (by kernel_rfl) (NP.th (NP.th NP.body)) (by kernel_rfl) (by kernel_rfl) (by kernel_rfl) rfl rfl rfl (cB (dF h_10)) (ka 0 (v := iv ((y_5.l.getD q o0).t.seq)) rfl rfl kq (flat_at encO_len o0 y_5.l q 0 (by omega) (by decide))) <| jg 16 rfl (by kernel_rfl) (NP.th (NP.th NP.body)) (by kernel_rfl) (by kernel_rfl) rfl rfl rfl (cB (dF h_10)) (kO rfl rfl) <| jL 17 rfl (ji (v := .bool (decide (y_5.dat.recov.2 = ((y_5.l.getD q o0).t.seq)))) (cB (dF h_10)) rfl) <| kI (by kernel_rfl) <| jB ?_
    by_cases h_12 : y_5.dat.recov.2 = ((y_5.l.getD q o0).t.seq)
    · refine jW (cB (dT h_12)) <| jC <| jF <| jK (jO 4 (vs := [.slice y_5.a y_5.l.length y_5.c, str y_5.jt, iv y_5.js]) rfl rfl ke kd rfl rfl) ?_
      refine jH rfl (ja 3 (vs := [.slice y_5.a y_5.l.length y_5.c, str y_5.jt, iv y_5.js]) (cs' := [.slice y_5.a y_5.l.length y_5.c, str y_5.jt, iv y_5.js]) rfl rfl rfl rfl kd rfl rfl (lb rfl) rfl) ?_
      rintro _ _ rfl
      refine jA (jG (v := .bool false) rfl) <| jE <| jB <| jN <| jX <| ju (L' := [Res.rows (rdsOS y_5.a y_5.c y_5.l), rC a_7 c_8 y_5.dat.recov.1, bk b_4 31 [.slice y_5.a y_5.l.length y_5.c, str y_5.jt, iv y_5.js], bk b_3 31 [.slice y_5.a y_5.l.length y_5.c, str y_5.jt, iv y_5.js]]) (fun w hw => hw.consR (r := ⟨.slice y_5.a y_5.l.length y_5.c, 60, 3, y_5.l.length, y_5.l.flatMap encO⟩) (A := y_5.l.flatMap rdsO) [0, 0] rfl) <| kC (.inl rfl) rfl (kA (jO 2 (vs := [.slice y_5.a y_5.l.length y_5.c, str y_5.jt, iv y_5.js]) rfl rfl ke kd rfl rfl) ⟨_, rfl⟩) (jJ (v := .bool false) rfl) (tS 1 _) ?_
      have he := foldB_no (d := y_5.dat) (by rintro ⟨h_1, h_2⟩; first | omega | simp_all)
      rw [hy_6] at he
      exact ⟨y_5, (hy_6).trans (congrArg Prod.fst he).symm, by rw [he], rfl⟩
    refine jR (cB (dF h_12)) <| jT <| jB <| jC <| jF <| jK (jO 4 (vs := [.slice y_5.a y_5.l.length y_5.c, str y_5.jt, iv y_5.js]) rfl rfl ke kd rfl rfl) ?_
    refine jH rfl (jI [] Tryz.call18 rfl (Y_sClean y_5 hzy hly) rfl (fun w hw => SeesA.cons (hw.see (i := 0) rfl) (hw.seeRows 1 rfl))) ?_
    rintro _ _ ⟨_, ⟨y_13, hy_14, rfl, rfl⟩, rfl⟩
    refine jA (PO.fieldK (vs := [str y_13.jt, iv y_13.js]) Tryz.underlying31 rfl rfl kp kl (by kernel_rfl)) <| jA (jQ fo31_1 rfl) ?_
    refine jH rfl (ja 5 (vs := [str y_13.jt, iv y_13.js]) (cs' := [.slice y_5.a y_5.l.length y_5.c, str y_13.jt, iv y_13.js]) rfl rfl rfl rfl kl rfl rfl (lb rfl) rfl) ?_
    rintro _ _ rfl
    refine jE <| jB <| jC ?_
    have hzc : y_13.dat.okz := by rw [hy_14]; exact clean_okz hzy
    have hzl : y_5.l.length = 2 := disk_two h_9
    refine kJ [Res.rows (rdsD y_13), Res.row (.slice y_5.a y_5.l.length y_5.c) 60 3 y_5.l.length (y_5.l.flatMap encO), Res.rows (y_5.l.flatMap rdsO), rC a_7 c_8 y_5.dat.recov.1, bk b_4 31 [.slice none 0 0, str [], iv 0], bk b_3 31 [.slice y_5.a y_5.l.length y_5.c, str y_13.jt, iv y_13.js]] 7 mixed (by simp) <| jL 0 rfl (jQ fo31_0 rfl) <| jw 1 rfl (jZ 5 (v := .slice y_5.a y_5.l.length y_5.c) rfl rfl ks rfl) <| jw 2 rfl (jO 5 (vs := [.slice y_5.a y_5.l.length y_5.c, str y_13.jt, iv y_13.js]) rfl rfl ke kd rfl rfl) <| jL 4 rfl (jD (v := iv y_5.dat.recov.2) rfl) <| jL 5 rfl (jD (v := .slice a_7 y_5.dat.recov.1.length c_8) rfl) <| jL 6 rfl (kW (ps := [(0, iv y_5.dat.recov.2), (1, .slice a_7 y_5.dat.recov.1.length c_8)]) (cs := [iv y_5.dat.recov.2, .slice a_7 y_5.dat.recov.1.length c_8, .bool false]) rfl (by kernel_rfl)) <| jj (i := 3) ?_
    refine jz rfl rfl (jI [] Tryz.call71 rfl (Y_sOther (⟨y_5.a, y_5.c, y_5.l, y_13.jt, y_13.js⟩ : DX) ⟨hzy.k0, hzy.k1, hzc.k2⟩ ⟨hly.l0, hly.l1⟩ q hq (by omega)) rfl (fun w hw => SeesA.cons (hw.see (i := 1) rfl) (hw.seeRows 2 rfl))) ?_
    rintro _ _ ⟨_, ⟨rfl, rfl⟩, rfl⟩
    refine ⟨by simp, ?_⟩
    refine jL 7 rfl (jk (i := (1 - q)) km kj hr_11 hr_11b rfl rfl (by omega)) <| jj (i := 8) ?_
    refine JX.ls rfl (JO.storeR 1 (vs := [iv y_5.dat.recov.2, .slice a_7 y_5.dat.recov.1.length c_8, .bool false]) (cs' := (y_5.l.set (1 - q) (⟨⟨a_7, c_8⟩, ⟨y_5.dat.recov.2, y_5.dat.recov.1, false⟩⟩ : OX)).flatMap encO) rfl rfl rfl rfl kj rfl rfl (by decide) (by rw [flat_length encO_len]; omega) (flat_set encO_len y_5.l (1 - q) (⟨⟨a_7, c_8⟩, ⟨y_5.dat.recov.2, y_5.dat.recov.1, false⟩⟩ : OX) (by omega))) ?_
    rintro _ _ rfl
    refine jB <| jC <| jF <| jK (jO 5 (vs := [.slice y_5.a y_5.l.length y_5.c, str y_13.jt, iv y_13.js]) rfl rfl ke kd rfl rfl) ?_
    refine jH rfl (ja 4 (vs := [.slice y_5.a y_5.l.length y_5.c, str y_13.jt, iv y_13.js]) (cs' := [.slice y_5.a y_5.l.length y_5.c, str y_13.jt, iv y_13.js]) rfl rfl rfl rfl kd rfl rfl (lb rfl) rfl) ?_
    rintro _ _ rfl
    refine jA (jG (v := .bool true) rfl) <| jE <| jB <| jN ?_
    have hi1 : 1 - q < y_5.l.length := by omega
    refine ju (L' := [Res.rows ((y_5.l.take (1 - q)).flatMap rdsO), Res.rows (rdsO (y_5.l.getD (1 - q) o0)), Res.rows ((y_5.l.drop (1 - q + 1)).flatMap rdsO), Res.rows (rdsD y_13), Res.row (.slice y_5.a y_5.l.length y_5.c) 60 3 y_5.l.length ((y_5.l.set (1 - q) (⟨⟨a_7, c_8⟩, ⟨y_5.dat.recov.2, y_5.dat.recov.1, false⟩⟩ : OX)).flatMap encO), rC a_7 c_8 y_5.dat.recov.1, bk b_4 31 [.slice y_5.a y_5.l.length y_5.c, str y_13.jt, iv y_13.js], bk b_3 31 [.slice y_5.a y_5.l.length y_5.c, str y_13.jt, iv y_13.js]]) (fun w hw => hw.splitR 2 rfl (flatMap_at o0 hi1)) <| ju (L' := [Res.rows (rdsO (⟨⟨a_7, c_8⟩, ⟨y_5.dat.recov.2, y_5.dat.recov.1, false⟩⟩ : OX)), Res.rows ((y_5.l.take (1 - q)).flatMap rdsO), Res.rows (rdsO (y_5.l.getD (1 - q) o0)), Res.rows ((y_5.l.drop (1 - q + 1)).flatMap rdsO), Res.rows (rdsD y_13), Res.row (.slice y_5.a y_5.l.length y_5.c) 60 3 y_5.l.length ((y_5.l.set (1 - q) (⟨⟨a_7, c_8⟩, ⟨y_5.dat.recov.2, y_5.dat.recov.1, false⟩⟩ : OX)).flatMap encO), bk b_4 31 [.slice y_5.a y_5.l.length y_5.c, str y_13.jt, iv y_13.js], bk b_3 31 [.slice y_5.a y_5.l.length y_5.c, str y_13.jt, iv y_13.js]]) (fun w hw => hw.closeR (A := rdsO (⟨⟨a_7, c_8⟩, ⟨y_5.dat.recov.2, y_5.dat.recov.1, false⟩⟩ : OX)) [5] rfl) <| ju (L' := [Res.rows ((y_5.l.set (1 - q) (⟨⟨a_7, c_8⟩, ⟨y_5.dat.recov.2, y_5.dat.recov.1, false⟩⟩ : OX)).flatMap rdsO), Res.rows (rdsO (y_5.l.getD (1 - q) o0)), Res.rows (rdsD y_13), Res.row (.slice y_5.a y_5.l.length y_5.c) 60 3 y_5.l.length ((y_5.l.set (1 - q) (⟨⟨a_7, c_8⟩, ⟨y_5.dat.recov.2, y_5.dat.recov.1, false⟩⟩ : OX)).flatMap encO), bk b_4 31 [.slice y_5.a y_5.l.length y_5.c, str y_13.jt, iv y_13.js], bk b_3 31 [.slice y_5.a y_5.l.length y_5.c, str y_13.jt, iv y_13.js]]) (fun w hw => hw.joinR [1, 0, 1] rfl (flatMap_setAt hi1)) <| ju (L' := [Res.rows ((y_5.l.set (1 - q) (⟨⟨a_7, c_8⟩, ⟨y_5.dat.recov.2, y_5.dat.recov.1, false⟩⟩ : OX)).flatMap rdsO), Res.rows (rdsO (y_5.l.getD (1 - q) o0)), Res.rows (rdsD y_13), Res.row (.slice y_5.a ((y_5.l.set (1 - q) (⟨⟨a_7, c_8⟩, ⟨y_5.dat.recov.2, y_5.dat.recov.1, false⟩⟩ : OX)).length) y_5.c) 60 3 ((y_5.l.set (1 - q) (⟨⟨a_7, c_8⟩, ⟨y_5.dat.recov.2, y_5.dat.recov.1, false⟩⟩ : OX)).length) ((y_5.l.set (1 - q) (⟨⟨a_7, c_8⟩, ⟨y_5.dat.recov.2, y_5.dat.recov.1, false⟩⟩ : OX)).flatMap encO), bk b_4 31 [.slice y_5.a y_5.l.length y_5.c, str y_13.jt, iv y_13.js], bk b_3 31 [.slice y_5.a y_5.l.length y_5.c, str y_13.jt, iv y_13.js]]) (fun w hw => hw.eqL (by simp only [List.length_set])) <| ju (L' := [Res.rows (rdsOS y_5.a y_5.c (y_5.l.set (1 - q) (⟨⟨a_7, c_8⟩, ⟨y_5.dat.recov.2, y_5.dat.recov.1, false⟩⟩ : OX))), Res.rows (rdsO (y_5.l.getD (1 - q) o0)), Res.rows (rdsD y_13), bk b_4 31 [.slice y_5.a y_5.l.length y_5.c, str y_13.jt, iv y_13.js], bk b_3 31 [.slice y_5.a y_5.l.length y_5.c, str y_13.jt, iv y_13.js]]) (fun w hw => hw.consR (r := ⟨.slice y_5.a ((y_5.l.set (1 - q) (⟨⟨a_7, c_8⟩, ⟨y_5.dat.recov.2, y_5.dat.recov.1, false⟩⟩ : OX)).length) y_5.c, 60, 3, (y_5.l.set (1 - q) (⟨⟨a_7, c_8⟩, ⟨y_5.dat.recov.2, y_5.dat.recov.1, false⟩⟩ : OX)).length, (y_5.l.set (1 - q) (⟨⟨a_7, c_8⟩, ⟨y_5.dat.recov.2, y_5.dat.recov.1, false⟩⟩ : OX)).flatMap encO⟩) (A := (y_5.l.set (1 - q) (⟨⟨a_7, c_8⟩, ⟨y_5.dat.recov.2, y_5.dat.recov.1, false⟩⟩ : OX)).flatMap rdsO) [3, 0] rfl) <| kC (.inl rfl) rfl (kA (jO 3 (vs := [.slice y_5.a y_5.l.length y_5.c, str y_13.jt, iv y_13.js]) rfl rfl ke kd rfl rfl) ⟨_, rfl⟩) (jJ (v := .bool true) rfl) (tS 1 _) ?_
    have he := foldB_yes (d := y_5.dat) ⟨h_9, by omega, by omega⟩
    have hc := hy_14
    rw [DD.clean, if_pos h_9] at hc
    have hf := (congrArg Prod.fst he).symm
    refine ⟨(⟨y_5.a, y_5.c, y_5.l.set (1 - q) (⟨⟨a_7, c_8⟩, ⟨y_5.dat.recov.2, y_5.dat.recov.1, false⟩⟩ : OX), y_13.jt, y_13.js⟩ : DX), ?_, by simp only [← hy_6, he, List.length_set], rfl⟩
    rw [← hy_6, he]
    exact fold_dat rfl (congrArg DD.jt hc) (congrArg DD.js hc) hq rfl
  refine jd 4 (b := true) rfl (by kernel_rfl) (NP.th (NP.th NP.body)) (by kernel_rfl) (by kernel_rfl) rfl rfl rfl (cB (cN h_9)) <| jd 5 (b := true) rfl (by kernel_rfl) (NP.th (NP.th NP.body)) (by kernel_rfl) (by kernel_rfl) rfl rfl rfl (cB (cN h_9)) <| jL 6 rfl (jh (v := .bool true) (cB (cN h_9)) rfl) <| jL 7 rfl (jD (v := .bool true) rfl) <| jd 8 (b := true) rfl (by kernel_rfl) (NP.th (NP.th NP.body)) (by kernel_rfl) (by kernel_rfl) rfl rfl rfl (cB rfl) <| jd 9 (b := true) rfl (by kernel_rfl) (NP.th (NP.th NP.body)) (by kernel_rfl) (by kernel_rfl) rfl rfl rfl (cB rfl) <| jd 10 (b := true) rfl (by kernel_rfl) (NP.th (NP.th NP.body)) (by kernel_rfl) (by kernel_rfl) rfl rfl rfl (cB rfl) <| jd 11 (b := true) rfl (by kernel_rfl) (NP.th (NP.th NP.body)) (by kernel_rfl) (by kernel_rfl) rfl rfl rfl (cB rfl) <| jd 12 (b := true) rfl (by kernel_rfl) (NP.th (NP.th NP.body)) (by kernel_rfl) (by kernel_rfl) rfl rfl rfl (cB rfl) <| jd 13 (b := true) rfl (by kernel_rfl) (NP.th (NP.th NP.body)) (by kernel_rfl) (by kernel_rfl) rfl rfl rfl (cB rfl) ?_
  refine jd 14 (b := true) rfl (by kernel_rfl) (NP.th (NP.th NP.body)) (by kernel_rfl) (by kernel_rfl) rfl rfl rfl (cB rfl) <| jd 15 (b := true) rfl (by kernel_rfl) (NP.th (NP.th NP.body)) (by kernel_rfl) (by kernel_rfl) rfl rfl rfl (cB rfl) <| jd 16 (b := true) rfl (by kernel_rfl) (NP.th (NP.th NP.body)) (by kernel_rfl) (by kernel_rfl) rfl rfl rfl (cB rfl) <| jL 17 rfl (jh (v := .bool true) (cB rfl) rfl) <| kI (by kernel_rfl) <| jB <| jW (cB rfl) <| jC <| jF <| jK (jO 4 (vs := [.slice y_5.a y_5.l.length y_5.c, str y_5.jt, iv y_5.js]) rfl rfl ke kd rfl rfl) ?_
  refine jH rfl (ja 3 (vs := [.slice y_5.a y_5.l.length y_5.c, str y_5.jt, iv y_5.js]) (cs' := [.slice y_5.a y_5.l.length y_5.c, str y_5.jt, iv y_5.js]) rfl rfl rfl rfl kd rfl rfl (lb rfl) rfl) ?_
  rintro _ _ rfl
  refine jA (jG (v := .bool false) rfl) <| jE <| jB <| jN <| jX <| ju (L' := [Res.rows (rdsOS y_5.a y_5.c y_5.l), rC a_7 c_8 y_5.dat.recov.1, bk b_4 31 [.slice y_5.a y_5.l.length y_5.c, str y_5.jt, iv y_5.js], bk b_3 31 [.slice y_5.a y_5.l.length y_5.c, str y_5.jt, iv y_5.js]]) (fun w hw => hw.consR (r := ⟨.slice y_5.a y_5.l.length y_5.c, 60, 3, y_5.l.length, y_5.l.flatMap encO⟩) (A := y_5.l.flatMap rdsO) [0, 0] rfl) <| kC (.inl rfl) rfl (kA (jO 2 (vs := [.slice y_5.a y_5.l.length y_5.c, str y_5.jt, iv y_5.js]) rfl rfl ke kd rfl rfl) ⟨_, rfl⟩) (jJ (v := .bool false) rfl) (tS 1 _) ?_
  have he := foldB_no (d := y_5.dat) (by rintro ⟨h_1, h_2⟩; first | omega | simp_all)
  rw [hy_6] at he
  exact ⟨y_5, (hy_6).trans (congrArg Prod.fst he).symm, by rw [he], rfl⟩

set_option maxRecDepth 4000 in
set_option maxHeartbeats 1000000 in
theorem Y_sFoldE (d : DX) (hz : d.dat.okz) (hl : d.dat.lim 1000000000) :
    Ct Tryz.prog 38 [.agg #[.slice d.a d.l.length d.c, str d.jt, .int .i64 d.js]] [] (fun w => SeesA w (rdsD d)) (fun v A' => ∃ y : DX, y.dat = d.dat.foldE.1 ∧ v = .tuple #[.agg #[.slice y.a y.l.length y.c, str y.jt, .int .i64 y.js], .bool d.dat.foldE.2] ∧ A' = [.rows (rdsD y)]) := by
  refine Ct.intro Tryz.func38 rfl Tryz.ntmps38 (lb rfl) fun w0 hpre => ?_
  have hs_1 : Sees w0 (.slice d.a d.l.length d.c) 3 d.l.length (d.l.flatMap encO) := (hpre).head
  have hi_2 : SeesA w0 (d.l.flatMap rdsO) := (hpre).tail
  have hjt := hz.k2
  have hdl : d.l.length ≤ 1000000000 := by have := hl.l0; simpa only [DX.dat, List.length_map] using this
  refine jC <| jF ?_
  refine jH rfl (kG (cs := [.slice d.a d.l.length d.c, str d.jt, iv d.js]) rfl rfl) ?_
  rintro _ _ ⟨b_3, rfl, rfl⟩
  refine jH rfl (jo (z := .agg #[.slice none 0 0, str [], iv 0]) (cs := [.slice none 0 0, str [], iv 0]) ko rfl) ?_
  rintro _ _ ⟨b_4, rfl, rfl⟩
  refine jA (jG (v := .bool false) rfl) <| jE <| jB <| jC <| jF <| jK (jO 1 (vs := [.slice d.a d.l.length d.c, str d.jt, iv d.js]) rfl rfl ke kd rfl rfl) ?_
  refine jH rfl (jI [] Tryz.call56 rfl (Z_specl23Copy d hl) rfl (fun w hw => hw.seeOutA hpre nMA)) ?_
  rintro _ _ ⟨_, ⟨y_5, hy_6, rfl, rfl⟩, rfl⟩
  refine jH rfl (ja 2 (vs := [.slice y_5.a y_5.l.length y_5.c, str y_5.jt, iv y_5.js]) (cs' := [.slice y_5.a y_5.l.length y_5.c, str y_5.jt, iv y_5.js]) rfl rfl rfl rfl kd rfl rfl (lb rfl) rfl) ?_
  rintro _ _ rfl
  refine jE <| jB <| jC <| jC ?_
  have hzy : y_5.dat.okz := by rw [hy_6]; exact hz
  have hly : y_5.dat.lim 1000000000 := by rw [hy_6]; exact hl
  have hyl : y_5.l.length = d.l.length := by have e_ := congrArg (fun q : DD => q.slots.length) hy_6; simpa only [DX.dat, List.length_map] using e_
  have hyt : y_5.jt = d.jt := congrArg DD.jt hy_6
  have hytl : y_5.jt.length = d.jt.length := by rw [hyt]
  refine jF <| jK (jO 2 (vs := [.slice y_5.a y_5.l.length y_5.c, str y_5.jt, iv y_5.js]) rfl rfl ke kd rfl rfl) ?_
  refine jH rfl (jI [] Tryz.call42 rfl (Y_specDiskOk y_5 hzy (by omega)) rfl (fun w hw => hw.seeRows 0 rfl)) ?_
  rintro _ _ ⟨_, ⟨rfl, rfl⟩, rfl⟩
  refine jA (jp rfl) <| jE <| jB ?_
  rcases Bool.eq_false_or_eq_true (diskOk y_5.dat) with h_7 | h_7
  · obtain ⟨q, hq, hql⟩ := diskOk_best h_7
    have hql : q < y_5.l.length := by simpa only [DX.dat, List.length_map] using hql
    have hjr := diskOk_jour h_7
    have hjr2 : ((y_5.jt.length : Nat) : Int) ≤ 20000 ∧ 0 ≤ y_5.js ∧ y_5.js ≤ ((y_5.jt.length : Nat) : Int) := by have h_ : jourOk y_5.jt y_5.js = true := hjr; simpa only [jourOk, within, Bool.and_eq_true, decide_eq_true_eq, and_assoc] using h_
    have hmost : (y_5.l.getD q o0).t.seq = mostOf y_5.dat := by rw [mostOf, hq, Int.toNat_natCast]; exact congrArg SD.seq getD_map'.symm
    have hmr := most_range h_7
    have hl2 := disk_two h_7
    refine jR (cB (cN h_7)) <| jT <| jB <| jC <| jF <| jK (jO 2 (vs := [.slice y_5.a y_5.l.length y_5.c, str y_5.jt, iv y_5.js]) rfl rfl ke kd rfl rfl) ?_
    refine jH rfl (jI [] Tryz.call71 rfl (Y_sOther y_5 hzy hly q hq (by omega)) rfl (fun w hw => hw.seeRows 0 rfl)) ?_
    rintro _ _ ⟨_, ⟨rfl, rfl⟩, rfl⟩
    refine jA (jG (v := iv ((1 - q : Nat) : Int)) rfl) <| jE <| jB <| jC <| kT (L' := [Res.row (.slice y_5.a y_5.l.length y_5.c) 60 3 y_5.l.length (y_5.l.flatMap encO), Res.rows (y_5.l.flatMap rdsO), bk b_4 31 [.slice none 0 0, str [], iv 0], bk b_3 31 [.slice y_5.a y_5.l.length y_5.c, str y_5.jt, iv y_5.js]]) (fun w hw => hw.headR (r := ⟨.slice y_5.a y_5.l.length y_5.c, 60, 3, y_5.l.length, y_5.l.flatMap encO⟩) (A := y_5.l.flatMap rdsO) 0 rfl) <| jF <| jA (jQ fo31_0 rfl) <| jK (jZ 3 (v := .slice y_5.a y_5.l.length y_5.c) rfl rfl ks rfl) <| jA (jD (v := iv ((1 - q : Nat) : Int)) rfl) ?_
    refine kN fun hst => ?_
    obtain ⟨hr_8, hr_8b, -⟩ := row_some 0 rfl (by omega) hst
    refine jA (jk (i := (1 - q)) km kj hr_8 hr_8b rfl rfl (by omega)) <| jK (LO.loadRK 0 (vs := [iv ((y_5.l.getD (1 - q) o0).t.seq), .slice ((y_5.l.getD (1 - q) o0).x.a0) ((y_5.l.getD (1 - q) o0).t.cells.length) ((y_5.l.getD (1 - q) o0).x.c0), .bool ((y_5.l.getD (1 - q) o0).t.whole)]) rfl rfl gB kj (flat_take encO_len o0 y_5.l (1 - q) (by omega)) rfl (by decide)) ?_
    refine jH rfl (jo (z := .agg #[iv 0, .slice none 0 0, .bool false]) (cs := [iv 0, .slice none 0 0, .bool false]) gD rfl) ?_
    rintro _ _ ⟨b_9, rfl, rfl⟩
    refine jH rfl (ja 0 (vs := [iv ((y_5.l.getD (1 - q) o0).t.seq), .slice ((y_5.l.getD (1 - q) o0).x.a0) ((y_5.l.getD (1 - q) o0).t.cells.length) ((y_5.l.getD (1 - q) o0).x.c0), .bool ((y_5.l.getD (1 - q) o0).t.whole)]) (cs' := [iv ((y_5.l.getD (1 - q) o0).t.seq), .slice ((y_5.l.getD (1 - q) o0).x.a0) ((y_5.l.getD (1 - q) o0).t.cells.length) ((y_5.l.getD (1 - q) o0).x.c0), .bool ((y_5.l.getD (1 - q) o0).t.whole)]) rfl rfl rfl rfl kj rfl rfl (lb rfl) rfl) ?_
    rintro _ _ rfl
    refine jE <| jB <| jC <| jC <| kJ [bk b_9 60 [iv ((y_5.l.getD (1 - q) o0).t.seq), .slice ((y_5.l.getD (1 - q) o0).x.a0) ((y_5.l.getD (1 - q) o0).t.cells.length) ((y_5.l.getD (1 - q) o0).x.c0), .bool ((y_5.l.getD (1 - q) o0).t.whole)], Res.row (.slice y_5.a y_5.l.length y_5.c) 60 3 y_5.l.length (y_5.l.flatMap encO), Res.rows (y_5.l.flatMap rdsO), bk b_4 31 [.slice none 0 0, str [], iv 0], bk b_3 31 [.slice y_5.a y_5.l.length y_5.c, str y_5.jt, iv y_5.js]] 1000 mixed (by simp) <| jL 0 rfl (jQ fo60_2 rfl) <| jw 1 rfl (jZ 0 (v := .bool ((y_5.l.getD (1 - q) o0).t.whole)) rfl rfl gI rfl) <| jL 2 rfl (jD (v := .bool ((y_5.l.getD (1 - q) o0).t.whole)) rfl) ?_
    rcases Bool.eq_false_or_eq_true ((y_5.l.getD (1 - q) o0).t.whole) with h_10 | h_10
    · refine jd 3 (b := true) rfl (by kernel_rfl) (NP.th (NP.th NP.body)) (by kernel_rfl) (by kernel_rfl) rfl rfl rfl (cB h_10) <| jd 4 (b := true) rfl (by kernel_rfl) (NP.th (NP.th NP.body)) (by kernel_rfl) (by kernel_rfl) rfl rfl rfl (cB h_10) <| jd 5 (b := true) rfl (by kernel_rfl) (NP.th (NP.th NP.body)) (by kernel_rfl) (by kernel_rfl) rfl rfl rfl (cB h_10) <| jd 6 (b := true) rfl (by kernel_rfl) (NP.th (NP.th NP.body)) (by kernel_rfl) (by kernel_rfl) rfl rfl rfl (cB h_10) <| jd 7 (b := true) rfl (by kernel_rfl) (NP.th (NP.th NP.body)) (by kernel_rfl) (by kernel_rfl) rfl rfl rfl (cB h_10) <| jd 8 (b := true) rfl (by kernel_rfl) (NP.th (NP.th NP.body)) (by kernel_rfl) (by kernel_rfl) rfl rfl rfl (cB h_10) <| jd 9 (b := true) rfl (by kernel_rfl) (NP.th (NP.th NP.body)) (by kernel_rfl) (by kernel_rfl) rfl rfl rfl (cB h_10) <| jd 10 (b := true) rfl (by kernel_rfl) (NP.th (NP.th NP.body)) (by kernel_rfl) (by kernel_rfl) rfl rfl rfl (cB h_10) <| jd 11 (b := true) rfl (by kernel_rfl) (NP.th (NP.th NP.body)) (by kernel_rfl) (by kernel_rfl) rfl rfl rfl (cB h_10) <| jd 12 (b := true) rfl (by kernel_rfl) (NP.th (NP.th NP.body)) (by kernel_rfl) (by kernel_rfl) rfl rfl rfl (cB h_10) ?_
      refine jL 13 rfl (jh (v := .bool true) (cB h_10) rfl) <| jL 14 rfl (jD (v := .bool true) rfl) <| jd 15 (b := true) rfl (by kernel_rfl) (NP.th (NP.th NP.body)) (by kernel_rfl) (by kernel_rfl) rfl rfl rfl (cB rfl) <| jd 16 (b := true) rfl (by kernel_rfl) (NP.th (NP.th NP.body)) (by kernel_rfl) (by kernel_rfl) rfl rfl rfl (cB rfl) <| jd 17 (b := true) rfl (by kernel_rfl) (NP.th (NP.th NP.body)) (by kernel_rfl) (by kernel_rfl) rfl rfl rfl (cB rfl) <| jd 18 (b := true) rfl (by kernel_rfl) (NP.th (NP.th NP.body)) (by kernel_rfl) (by kernel_rfl) rfl rfl rfl (cB rfl) <| jL 19 rfl (jh (v := .bool true) (cB rfl) rfl) <| jL 20 rfl (jD (v := .bool true) rfl) <| jd 21 (b := true) rfl (by kernel_rfl) (NP.th (NP.th NP.body)) (by kernel_rfl) (by kernel_rfl) rfl rfl rfl (cB rfl) <| jd 22 (b := true) rfl (by kernel_rfl) (NP.th (NP.th NP.body)) (by kernel_rfl) (by kernel_rfl) rfl rfl rfl (cB rfl) ?_
      refine jd 23 (b := true) rfl (by kernel_rfl) (NP.th (NP.th NP.body)) (by kernel_rfl) (by kernel_rfl) rfl rfl rfl (cB rfl) <| jd 24 (b := true) rfl (by kernel_rfl) (NP.th (NP.th NP.body)) (by kernel_rfl) (by kernel_rfl) rfl rfl rfl (cB rfl) <| jL 25 rfl (jh (v := .bool true) (cB rfl) rfl) <| kI (by kernel_rfl) <| jB <| jW (cB rfl) <| jC <| jF <| jK (jO 4 (vs := [.slice y_5.a y_5.l.length y_5.c, str y_5.jt, iv y_5.js]) rfl rfl ke kd rfl rfl) ?_
      refine jH rfl (ja 3 (vs := [.slice y_5.a y_5.l.length y_5.c, str y_5.jt, iv y_5.js]) (cs' := [.slice y_5.a y_5.l.length y_5.c, str y_5.jt, iv y_5.js]) rfl rfl rfl rfl kd rfl rfl (lb rfl) rfl) ?_
      rintro _ _ rfl
      refine jA (jG (v := .bool false) rfl) <| jE <| jB <| jN <| jX <| ju (L' := [Res.rows (rdsOS y_5.a y_5.c y_5.l), bk b_9 60 [iv ((y_5.l.getD (1 - q) o0).t.seq), .slice ((y_5.l.getD (1 - q) o0).x.a0) ((y_5.l.getD (1 - q) o0).t.cells.length) ((y_5.l.getD (1 - q) o0).x.c0), .bool ((y_5.l.getD (1 - q) o0).t.whole)], bk b_4 31 [.slice y_5.a y_5.l.length y_5.c, str y_5.jt, iv y_5.js], bk b_3 31 [.slice y_5.a y_5.l.length y_5.c, str y_5.jt, iv y_5.js]]) (fun w hw => hw.consR (r := ⟨.slice y_5.a y_5.l.length y_5.c, 60, 3, y_5.l.length, y_5.l.flatMap encO⟩) (A := y_5.l.flatMap rdsO) [1, 1] rfl) <| kC (.inl rfl) rfl (kA (jO 2 (vs := [.slice y_5.a y_5.l.length y_5.c, str y_5.jt, iv y_5.js]) rfl rfl ke kd rfl rfl) ⟨_, rfl⟩) (jJ (v := .bool false) rfl) (tS 1 _) ?_
      have hoth : othD y_5.dat = (y_5.l.getD (1 - q) o0).t := by rw [othD, hq, Int.toNat_natCast]; exact getD_map'
      have he := foldE_no (d := y_5.dat) (by rw [hoth]; rintro ⟨h_1, h_2, h_3, h_4, h_5⟩; first | omega | simp_all)
      rw [hy_6] at he
      exact ⟨y_5, (hy_6).trans (congrArg Prod.fst he).symm, by rw [he], rfl⟩
    refine jg 3 rfl (by kernel_rfl) (NP.th (NP.th NP.body)) (by kernel_rfl) (by kernel_rfl) rfl rfl rfl (cB h_10) (jQ fo60_0 rfl) <| kK 4 rfl (by kernel_rfl) (NP.th (NP.th NP.body)) (by kernel_rfl) (by kernel_rfl) (by kernel_rfl) rfl rfl rfl (cB h_10) (jZ 0 (v := iv ((y_5.l.getD (1 - q) o0).t.seq)) rfl rfl kq rfl) <| jg 5 rfl (by kernel_rfl) (NP.th (NP.th NP.body)) (by kernel_rfl) (by kernel_rfl) rfl rfl rfl (cB h_10) (jQ fo31_0 rfl) <| kK 6 rfl (by kernel_rfl) (NP.th (NP.th NP.body)) (by kernel_rfl) (by kernel_rfl) (by kernel_rfl) rfl rfl rfl (cB h_10) (jZ 4 (v := .slice y_5.a y_5.l.length y_5.c) rfl rfl ks rfl) <| jg 7 rfl (by kernel_rfl) (NP.th (NP.th NP.body)) (by kernel_rfl) (by kernel_rfl) rfl rfl rfl (cB h_10) (jD (v := iv ((1 - q : Nat) : Int)) rfl) <| jg 8 rfl (by kernel_rfl) (NP.th (NP.th NP.body)) (by kernel_rfl) (by kernel_rfl) rfl rfl rfl (cB h_10) (kZ (c := ((q : Nat) : Int)) rfl rfl (wr (by omega))) <| jg 9 rfl (by kernel_rfl) (NP.th (NP.th NP.body)) (by kernel_rfl) (by kernel_rfl) rfl rfl rfl (cB h_10) (jk (i := q) km kj hr_8 hr_8b rfl rfl (by omega)) <| jg 10 rfl (by kernel_rfl) (NP.th (NP.th NP.body)) (by kernel_rfl) (by kernel_rfl) rfl rfl rfl (cB h_10) (kL fo60_0 hr_8 rfl) <| kK 11 rfl (by kernel_rfl) (NP.th (NP.th NP.body)) (by kernel_rfl) (by kernel_rfl) (by kernel_rfl) rfl rfl rfl (cB h_10) (ka 1 (v := iv ((y_5.l.getD q o0).t.seq)) rfl rfl kq (flat_at encO_len o0 y_5.l q 0 (by omega) (by decide))) <| jg 12 rfl (by kernel_rfl) (NP.th (NP.th NP.body)) (by kernel_rfl) (by kernel_rfl) rfl rfl rfl (cB h_10) (PO.leq rfl rfl) ?_
    refine jL 13 rfl (ji (v := .bool (decide (((y_5.l.getD (1 - q) o0).t.seq) ≤ ((y_5.l.getD q o0).t.seq)))) (cB h_10) rfl) <| jL 14 rfl (jD (v := .bool (decide (((y_5.l.getD (1 - q) o0).t.seq) ≤ ((y_5.l.getD q o0).t.seq)))) rfl) ?_
    by_cases h_11 : ((y_5.l.getD (1 - q) o0).t.seq) ≤ ((y_5.l.getD q o0).t.seq)
    · refine jd 15 (b := true) rfl (by kernel_rfl) (NP.th (NP.th NP.body)) (by kernel_rfl) (by kernel_rfl) rfl rfl rfl (cB (dT h_11)) <| jd 16 (b := true) rfl (by kernel_rfl) (NP.th (NP.th NP.body)) (by kernel_rfl) (by kernel_rfl) rfl rfl rfl (cB (dT h_11)) <| jd 17 (b := true) rfl (by kernel_rfl) (NP.th (NP.th NP.body)) (by kernel_rfl) (by kernel_rfl) rfl rfl rfl (cB (dT h_11)) <| jd 18 (b := true) rfl (by kernel_rfl) (NP.th (NP.th NP.body)) (by kernel_rfl) (by kernel_rfl) rfl rfl rfl (cB (dT h_11)) <| jL 19 rfl (jh (v := .bool true) (cB (dT h_11)) rfl) <| jL 20 rfl (jD (v := .bool true) rfl) <| jd 21 (b := true) rfl (by kernel_rfl) (NP.th (NP.th NP.body)) (by kernel_rfl) (by kernel_rfl) rfl rfl rfl (cB rfl) <| jd 22 (b := true) rfl (by kernel_rfl) (NP.th (NP.th NP.body)) (by kernel_rfl) (by kernel_rfl) rfl rfl rfl (cB rfl) <| jd 23 (b := true) rfl (by kernel_rfl) (NP.th (NP.th NP.body)) (by kernel_rfl) (by kernel_rfl) rfl rfl rfl (cB rfl) <| jd 24 (b := true) rfl (by kernel_rfl) (NP.th (NP.th NP.body)) (by kernel_rfl) (by kernel_rfl) rfl rfl rfl (cB rfl) ?_
      refine jL 25 rfl (jh (v := .bool true) (cB rfl) rfl) <| kI (by kernel_rfl) <| jB <| jW (cB rfl) <| jC <| jF <| jK (jO 4 (vs := [.slice y_5.a y_5.l.length y_5.c, str y_5.jt, iv y_5.js]) rfl rfl ke kd rfl rfl) ?_
      refine jH rfl (ja 3 (vs := [.slice y_5.a y_5.l.length y_5.c, str y_5.jt, iv y_5.js]) (cs' := [.slice y_5.a y_5.l.length y_5.c, str y_5.jt, iv y_5.js]) rfl rfl rfl rfl kd rfl rfl (lb rfl) rfl) ?_
      rintro _ _ rfl
      refine jA (jG (v := .bool false) rfl) <| jE <| jB <| jN <| jX <| ju (L' := [Res.rows (rdsOS y_5.a y_5.c y_5.l), bk b_9 60 [iv ((y_5.l.getD (1 - q) o0).t.seq), .slice ((y_5.l.getD (1 - q) o0).x.a0) ((y_5.l.getD (1 - q) o0).t.cells.length) ((y_5.l.getD (1 - q) o0).x.c0), .bool ((y_5.l.getD (1 - q) o0).t.whole)], bk b_4 31 [.slice y_5.a y_5.l.length y_5.c, str y_5.jt, iv y_5.js], bk b_3 31 [.slice y_5.a y_5.l.length y_5.c, str y_5.jt, iv y_5.js]]) (fun w hw => hw.consR (r := ⟨.slice y_5.a y_5.l.length y_5.c, 60, 3, y_5.l.length, y_5.l.flatMap encO⟩) (A := y_5.l.flatMap rdsO) [1, 1] rfl) <| kC (.inl rfl) rfl (kA (jO 2 (vs := [.slice y_5.a y_5.l.length y_5.c, str y_5.jt, iv y_5.js]) rfl rfl ke kd rfl rfl) ⟨_, rfl⟩) (jJ (v := .bool false) rfl) (tS 1 _) ?_
      have hoth : othD y_5.dat = (y_5.l.getD (1 - q) o0).t := by rw [othD, hq, Int.toNat_natCast]; exact getD_map'
      have he := foldE_no (d := y_5.dat) (by rw [hoth]; rintro ⟨h_1, h_2, h_3, h_4, h_5⟩; first | omega | simp_all)
      rw [hy_6] at he
      exact ⟨y_5, (hy_6).trans (congrArg Prod.fst he).symm, by rw [he], rfl⟩
    refine jg 15 rfl (by kernel_rfl) (NP.th (NP.th NP.body)) (by kernel_rfl) (by kernel_rfl) rfl rfl rfl (cB (dF h_11)) (jQ fo60_1 rfl) <| kK 16 rfl (by kernel_rfl) (NP.th (NP.th NP.body)) (by kernel_rfl) (by kernel_rfl) (by kernel_rfl) rfl rfl rfl (cB (dF h_11)) (jZ 0 (v := .slice ((y_5.l.getD (1 - q) o0).x.a0) ((y_5.l.getD (1 - q) o0).t.cells.length) ((y_5.l.getD (1 - q) o0).x.c0)) rfl rfl kz rfl) <| jj (i := 17) ?_
    refine kQ rfl rfl rfl rfl (cB (dF h_11)) (jI [] Tryz.call53 rfl (Y_specStoreOk (y_5.l.getD (1 - q) o0).x.a0 ((y_5.l.getD (1 - q) o0).x.c0) ((y_5.l.getD (1 - q) o0).t.cells) (hzy.k1 _ (List.mem_map_of_mem (getD_mem (d := o0) (by omega)))).k0) rfl (fun w hw => (seesO ((hw.seeRows 2 rfl).elem o0 (by omega))))) ?_
    rintro _ _ ⟨_, ⟨rfl, rfl⟩, rfl⟩
    refine ⟨by simp, ?_⟩
    refine jg 18 rfl (by kernel_rfl) (NP.th (NP.th NP.body)) (by kernel_rfl) (by kernel_rfl) rfl rfl rfl (cB (dF h_11)) (jp rfl) <| jL 19 rfl (ji (v := .bool (!(storeOk ((y_5.l.getD (1 - q) o0).t.cells)))) (cB (dF h_11)) rfl) <| jL 20 rfl (jD (v := .bool (!(storeOk ((y_5.l.getD (1 - q) o0).t.cells)))) rfl) ?_
    rcases Bool.eq_false_or_eq_true (storeOk ((y_5.l.getD (1 - q) o0).t.cells)) with h_12 | h_12
    · refine jg 21 rfl (by kernel_rfl) (NP.th (NP.th NP.body)) (by kernel_rfl) (by kernel_rfl) rfl rfl rfl (cB (cN h_12)) (jQ fo60_0 rfl) <| kK 22 rfl (by kernel_rfl) (NP.th (NP.th NP.body)) (by kernel_rfl) (by kernel_rfl) (by kernel_rfl) rfl rfl rfl (cB (cN h_12)) (jZ 0 (v := iv ((y_5.l.getD (1 - q) o0).t.seq)) rfl rfl kq rfl) <| jj (i := 23) ?_
      refine kQ rfl rfl rfl rfl (cB (cN h_12)) (jI [] Tryz.call89 rfl (Y_l01In ((y_5.l.getD (1 - q) o0).t.seq) 0 99999) rfl (fun _ _ => trivial)) ?_
      rintro _ _ ⟨_, ⟨rfl, rfl⟩, rfl⟩
      refine ⟨by simp, ?_⟩
      refine jg 24 rfl (by kernel_rfl) (NP.th (NP.th NP.body)) (by kernel_rfl) (by kernel_rfl) rfl rfl rfl (cB (cN h_12)) (jp rfl) <| jL 25 rfl (ji (v := .bool (!(within 0 ((y_5.l.getD (1 - q) o0).t.seq) 99999))) (cB (cN h_12)) rfl) <| kI (by kernel_rfl) <| jB ?_
      rcases Bool.eq_false_or_eq_true (within 0 ((y_5.l.getD (1 - q) o0).t.seq) 99999) with h_13 | h_13
      · refine jR (cB (cN h_13)) <| jT <| jB <| jC <| jF <| jA (jQ fo31_0 rfl) <| jK (jZ 4 (v := .slice y_5.a y_5.l.length y_5.c) rfl rfl ks rfl) <| jA (jD (v := iv ((1 - q : Nat) : Int)) rfl) <| jA (jk (i := (1 - q)) km kj hr_8 hr_8b rfl rfl (by omega)) <| jA (kL fo60_2 hr_8 rfl) ?_
        refine jH rfl (JO.storeR 1 (vs := [.bool true]) (cs' := (y_5.l.set (1 - q) (⟨⟨(y_5.l.getD (1 - q) o0).x.a0, ((y_5.l.getD (1 - q) o0).x.c0)⟩, ⟨(y_5.l.getD (1 - q) o0).t.seq, (y_5.l.getD (1 - q) o0).t.cells, true⟩⟩ : OX)).flatMap encO) rfl rfl rfl rfl Tryz.sizeOf4 rfl rfl (by decide) (by rw [flat_length encO_len]; omega) (flat_set1 encO_len o0 (f := 2) (y := (⟨⟨(y_5.l.getD (1 - q) o0).x.a0, ((y_5.l.getD (1 - q) o0).x.c0)⟩, ⟨(y_5.l.getD (1 - q) o0).t.seq, (y_5.l.getD (1 - q) o0).t.cells, true⟩⟩ : OX)) (by omega) (by decide) rfl)) ?_
        rintro _ _ rfl
        refine jE <| jB <| jC <| jF <| jK (jO 4 (vs := [.slice y_5.a y_5.l.length y_5.c, str y_5.jt, iv y_5.js]) rfl rfl ke kd rfl rfl) ?_
        refine jH rfl (ja 3 (vs := [.slice y_5.a y_5.l.length y_5.c, str y_5.jt, iv y_5.js]) (cs' := [.slice y_5.a y_5.l.length y_5.c, str y_5.jt, iv y_5.js]) rfl rfl rfl rfl kd rfl rfl (lb rfl) rfl) ?_
        rintro _ _ rfl
        refine jA (jG (v := .bool true) rfl) <| jE <| jB <| jN <| ju (L' := [Res.rows ((y_5.l.set (1 - q) (⟨⟨(y_5.l.getD (1 - q) o0).x.a0, ((y_5.l.getD (1 - q) o0).x.c0)⟩, ⟨(y_5.l.getD (1 - q) o0).t.seq, (y_5.l.getD (1 - q) o0).t.cells, true⟩⟩ : OX)).flatMap rdsO), bk b_9 60 [iv ((y_5.l.getD (1 - q) o0).t.seq), .slice ((y_5.l.getD (1 - q) o0).x.a0) ((y_5.l.getD (1 - q) o0).t.cells.length) ((y_5.l.getD (1 - q) o0).x.c0), .bool ((y_5.l.getD (1 - q) o0).t.whole)], Res.row (.slice y_5.a y_5.l.length y_5.c) 60 3 y_5.l.length ((y_5.l.set (1 - q) (⟨⟨(y_5.l.getD (1 - q) o0).x.a0, ((y_5.l.getD (1 - q) o0).x.c0)⟩, ⟨(y_5.l.getD (1 - q) o0).t.seq, (y_5.l.getD (1 - q) o0).t.cells, true⟩⟩ : OX)).flatMap encO), bk b_4 31 [.slice y_5.a y_5.l.length y_5.c, str y_5.jt, iv y_5.js], bk b_3 31 [.slice y_5.a y_5.l.length y_5.c, str y_5.jt, iv y_5.js]]) (fun w hw => hw.rowsEq 2 (A := y_5.l.flatMap rdsO) (B := (y_5.l.set (1 - q) (⟨⟨(y_5.l.getD (1 - q) o0).x.a0, ((y_5.l.getD (1 - q) o0).x.c0)⟩, ⟨(y_5.l.getD (1 - q) o0).t.seq, (y_5.l.getD (1 - q) o0).t.cells, true⟩⟩ : OX)).flatMap rdsO) (F := [bk b_9 60 [iv ((y_5.l.getD (1 - q) o0).t.seq), .slice ((y_5.l.getD (1 - q) o0).x.a0) ((y_5.l.getD (1 - q) o0).t.cells.length) ((y_5.l.getD (1 - q) o0).x.c0), .bool ((y_5.l.getD (1 - q) o0).t.whole)], Res.row (.slice y_5.a y_5.l.length y_5.c) 60 3 y_5.l.length ((y_5.l.set (1 - q) (⟨⟨(y_5.l.getD (1 - q) o0).x.a0, ((y_5.l.getD (1 - q) o0).x.c0)⟩, ⟨(y_5.l.getD (1 - q) o0).t.seq, (y_5.l.getD (1 - q) o0).t.cells, true⟩⟩ : OX)).flatMap encO), bk b_4 31 [.slice y_5.a y_5.l.length y_5.c, str y_5.jt, iv y_5.js], bk b_3 31 [.slice y_5.a y_5.l.length y_5.c, str y_5.jt, iv y_5.js]]) rfl (flatMap_sameO (l := y_5.l) (i := 1 - q) (x := (⟨⟨(y_5.l.getD (1 - q) o0).x.a0, ((y_5.l.getD (1 - q) o0).x.c0)⟩, ⟨(y_5.l.getD (1 - q) o0).t.seq, (y_5.l.getD (1 - q) o0).t.cells, true⟩⟩ : OX)) (by omega) rfl).symm) <| ju (L' := [Res.rows ((y_5.l.set (1 - q) (⟨⟨(y_5.l.getD (1 - q) o0).x.a0, ((y_5.l.getD (1 - q) o0).x.c0)⟩, ⟨(y_5.l.getD (1 - q) o0).t.seq, (y_5.l.getD (1 - q) o0).t.cells, true⟩⟩ : OX)).flatMap rdsO), bk b_9 60 [iv ((y_5.l.getD (1 - q) o0).t.seq), .slice ((y_5.l.getD (1 - q) o0).x.a0) ((y_5.l.getD (1 - q) o0).t.cells.length) ((y_5.l.getD (1 - q) o0).x.c0), .bool ((y_5.l.getD (1 - q) o0).t.whole)], Res.row (.slice y_5.a ((y_5.l.set (1 - q) (⟨⟨(y_5.l.getD (1 - q) o0).x.a0, ((y_5.l.getD (1 - q) o0).x.c0)⟩, ⟨(y_5.l.getD (1 - q) o0).t.seq, (y_5.l.getD (1 - q) o0).t.cells, true⟩⟩ : OX)).length) y_5.c) 60 3 ((y_5.l.set (1 - q) (⟨⟨(y_5.l.getD (1 - q) o0).x.a0, ((y_5.l.getD (1 - q) o0).x.c0)⟩, ⟨(y_5.l.getD (1 - q) o0).t.seq, (y_5.l.getD (1 - q) o0).t.cells, true⟩⟩ : OX)).length) ((y_5.l.set (1 - q) (⟨⟨(y_5.l.getD (1 - q) o0).x.a0, ((y_5.l.getD (1 - q) o0).x.c0)⟩, ⟨(y_5.l.getD (1 - q) o0).t.seq, (y_5.l.getD (1 - q) o0).t.cells, true⟩⟩ : OX)).flatMap encO), bk b_4 31 [.slice y_5.a y_5.l.length y_5.c, str y_5.jt, iv y_5.js], bk b_3 31 [.slice y_5.a y_5.l.length y_5.c, str y_5.jt, iv y_5.js]]) (fun w hw => hw.eqL (by simp only [List.length_set])) <| ju (L' := [Res.rows (rdsOS y_5.a y_5.c (y_5.l.set (1 - q) (⟨⟨(y_5.l.getD (1 - q) o0).x.a0, ((y_5.l.getD (1 - q) o0).x.c0)⟩, ⟨(y_5.l.getD (1 - q) o0).t.seq, (y_5.l.getD (1 - q) o0).t.cells, true⟩⟩ : OX))), bk b_9 60 [iv ((y_5.l.getD (1 - q) o0).t.seq), .slice ((y_5.l.getD (1 - q) o0).x.a0) ((y_5.l.getD (1 - q) o0).t.cells.length) ((y_5.l.getD (1 - q) o0).x.c0), .bool ((y_5.l.getD (1 - q) o0).t.whole)], bk b_4 31 [.slice y_5.a y_5.l.length y_5.c, str y_5.jt, iv y_5.js], bk b_3 31 [.slice y_5.a y_5.l.length y_5.c, str y_5.jt, iv y_5.js]]) (fun w hw => hw.consR (r := ⟨.slice y_5.a ((y_5.l.set (1 - q) (⟨⟨(y_5.l.getD (1 - q) o0).x.a0, ((y_5.l.getD (1 - q) o0).x.c0)⟩, ⟨(y_5.l.getD (1 - q) o0).t.seq, (y_5.l.getD (1 - q) o0).t.cells, true⟩⟩ : OX)).length) y_5.c, 60, 3, (y_5.l.set (1 - q) (⟨⟨(y_5.l.getD (1 - q) o0).x.a0, ((y_5.l.getD (1 - q) o0).x.c0)⟩, ⟨(y_5.l.getD (1 - q) o0).t.seq, (y_5.l.getD (1 - q) o0).t.cells, true⟩⟩ : OX)).length, (y_5.l.set (1 - q) (⟨⟨(y_5.l.getD (1 - q) o0).x.a0, ((y_5.l.getD (1 - q) o0).x.c0)⟩, ⟨(y_5.l.getD (1 - q) o0).t.seq, (y_5.l.getD (1 - q) o0).t.cells, true⟩⟩ : OX)).flatMap encO⟩) (A := (y_5.l.set (1 - q) (⟨⟨(y_5.l.getD (1 - q) o0).x.a0, ((y_5.l.getD (1 - q) o0).x.c0)⟩, ⟨(y_5.l.getD (1 - q) o0).t.seq, (y_5.l.getD (1 - q) o0).t.cells, true⟩⟩ : OX)).flatMap rdsO) [2, 0] rfl) <| kC (.inl rfl) rfl (kA (jO 2 (vs := [.slice y_5.a y_5.l.length y_5.c, str y_5.jt, iv y_5.js]) rfl rfl ke kd rfl rfl) ⟨_, rfl⟩) (jJ (v := .bool true) rfl) (tS 1 _) ?_
        have hoth : othD y_5.dat = (y_5.l.getD (1 - q) o0).t := by rw [othD, hq, Int.toNat_natCast]; exact getD_map'
        have he := foldE_yes (d := y_5.dat) (by rw [hoth]; exact ⟨h_7, by assumption, by omega, by assumption, by assumption⟩)
        rw [hoth] at he
        refine ⟨(⟨y_5.a, y_5.c, y_5.l.set (1 - q) (⟨⟨(y_5.l.getD (1 - q) o0).x.a0, ((y_5.l.getD (1 - q) o0).x.c0)⟩, ⟨(y_5.l.getD (1 - q) o0).t.seq, (y_5.l.getD (1 - q) o0).t.cells, true⟩⟩ : OX), y_5.jt, y_5.js⟩ : DX), ?_, by simp only [← hy_6, he, List.length_set], rfl⟩
        rw [← hy_6, he]
        exact fold_dat rfl rfl rfl hq rfl
      refine jW (cB (cN h_13)) <| jC <| jF <| jK (jO 4 (vs := [.slice y_5.a y_5.l.length y_5.c, str y_5.jt, iv y_5.js]) rfl rfl ke kd rfl rfl) ?_
      refine jH rfl (ja 3 (vs := [.slice y_5.a y_5.l.length y_5.c, str y_5.jt, iv y_5.js]) (cs' := [.slice y_5.a y_5.l.length y_5.c, str y_5.jt, iv y_5.js]) rfl rfl rfl rfl kd rfl rfl (lb rfl) rfl) ?_
      rintro _ _ rfl
      refine jA (jG (v := .bool false) rfl) <| jE <| jB <| jN <| jX <| ju (L' := [Res.rows (rdsOS y_5.a y_5.c y_5.l), bk b_9 60 [iv ((y_5.l.getD (1 - q) o0).t.seq), .slice ((y_5.l.getD (1 - q) o0).x.a0) ((y_5.l.getD (1 - q) o0).t.cells.length) ((y_5.l.getD (1 - q) o0).x.c0), .bool ((y_5.l.getD (1 - q) o0).t.whole)], bk b_4 31 [.slice y_5.a y_5.l.length y_5.c, str y_5.jt, iv y_5.js], bk b_3 31 [.slice y_5.a y_5.l.length y_5.c, str y_5.jt, iv y_5.js]]) (fun w hw => hw.consR (r := ⟨.slice y_5.a y_5.l.length y_5.c, 60, 3, y_5.l.length, y_5.l.flatMap encO⟩) (A := y_5.l.flatMap rdsO) [1, 1] rfl) <| kC (.inl rfl) rfl (kA (jO 2 (vs := [.slice y_5.a y_5.l.length y_5.c, str y_5.jt, iv y_5.js]) rfl rfl ke kd rfl rfl) ⟨_, rfl⟩) (jJ (v := .bool false) rfl) (tS 1 _) ?_
      have hoth : othD y_5.dat = (y_5.l.getD (1 - q) o0).t := by rw [othD, hq, Int.toNat_natCast]; exact getD_map'
      have he := foldE_no (d := y_5.dat) (by rw [hoth]; rintro ⟨h_1, h_2, h_3, h_4, h_5⟩; first | omega | simp_all)
      rw [hy_6] at he
      exact ⟨y_5, (hy_6).trans (congrArg Prod.fst he).symm, by rw [he], rfl⟩
    refine jd 21 (b := true) rfl (by kernel_rfl) (NP.th (NP.th NP.body)) (by kernel_rfl) (by kernel_rfl) rfl rfl rfl (cB (cN h_12)) <| jd 22 (b := true) rfl (by kernel_rfl) (NP.th (NP.th NP.body)) (by kernel_rfl) (by kernel_rfl) rfl rfl rfl (cB (cN h_12)) <| jd 23 (b := true) rfl (by kernel_rfl) (NP.th (NP.th NP.body)) (by kernel_rfl) (by kernel_rfl) rfl rfl rfl (cB (cN h_12)) <| jd 24 (b := true) rfl (by kernel_rfl) (NP.th (NP.th NP.body)) (by kernel_rfl) (by kernel_rfl) rfl rfl rfl (cB (cN h_12)) <| jL 25 rfl (jh (v := .bool true) (cB (cN h_12)) rfl) <| kI (by kernel_rfl) <| jB <| jW (cB rfl) <| jC <| jF ?_
    refine jK (jO 4 (vs := [.slice y_5.a y_5.l.length y_5.c, str y_5.jt, iv y_5.js]) rfl rfl ke kd rfl rfl) ?_
    refine jH rfl (ja 3 (vs := [.slice y_5.a y_5.l.length y_5.c, str y_5.jt, iv y_5.js]) (cs' := [.slice y_5.a y_5.l.length y_5.c, str y_5.jt, iv y_5.js]) rfl rfl rfl rfl kd rfl rfl (lb rfl) rfl) ?_
    rintro _ _ rfl
    refine jA (jG (v := .bool false) rfl) <| jE <| jB <| jN <| jX <| ju (L' := [Res.rows (rdsOS y_5.a y_5.c y_5.l), bk b_9 60 [iv ((y_5.l.getD (1 - q) o0).t.seq), .slice ((y_5.l.getD (1 - q) o0).x.a0) ((y_5.l.getD (1 - q) o0).t.cells.length) ((y_5.l.getD (1 - q) o0).x.c0), .bool ((y_5.l.getD (1 - q) o0).t.whole)], bk b_4 31 [.slice y_5.a y_5.l.length y_5.c, str y_5.jt, iv y_5.js], bk b_3 31 [.slice y_5.a y_5.l.length y_5.c, str y_5.jt, iv y_5.js]]) (fun w hw => hw.consR (r := ⟨.slice y_5.a y_5.l.length y_5.c, 60, 3, y_5.l.length, y_5.l.flatMap encO⟩) (A := y_5.l.flatMap rdsO) [1, 1] rfl) <| kC (.inl rfl) rfl (kA (jO 2 (vs := [.slice y_5.a y_5.l.length y_5.c, str y_5.jt, iv y_5.js]) rfl rfl ke kd rfl rfl) ⟨_, rfl⟩) (jJ (v := .bool false) rfl) (tS 1 _) ?_
    have hoth : othD y_5.dat = (y_5.l.getD (1 - q) o0).t := by rw [othD, hq, Int.toNat_natCast]; exact getD_map'
    have he := foldE_no (d := y_5.dat) (by rw [hoth]; rintro ⟨h_1, h_2, h_3, h_4, h_5⟩; first | omega | simp_all)
    rw [hy_6] at he
    exact ⟨y_5, (hy_6).trans (congrArg Prod.fst he).symm, by rw [he], rfl⟩
  refine jW (cB (cN h_7)) <| jC <| jF <| jK (jO 2 (vs := [.slice y_5.a y_5.l.length y_5.c, str y_5.jt, iv y_5.js]) rfl rfl ke kd rfl rfl) ?_
  refine jH rfl (ja 1 (vs := [.slice y_5.a y_5.l.length y_5.c, str y_5.jt, iv y_5.js]) (cs' := [.slice y_5.a y_5.l.length y_5.c, str y_5.jt, iv y_5.js]) rfl rfl rfl rfl kd rfl rfl (lb rfl) rfl) ?_
  rintro _ _ rfl
  refine jA (jG (v := .bool false) rfl) <| jE <| jB <| jN <| jX <| kC (.inl rfl) rfl (kA (jO 1 (vs := [.slice y_5.a y_5.l.length y_5.c, str y_5.jt, iv y_5.js]) rfl rfl ke kd rfl rfl) ⟨_, rfl⟩) (jJ (v := .bool false) rfl) (tS 1 _) ?_
  have he := foldE_no (d := y_5.dat) (by rintro ⟨h_1, h_2, h_3, h_4, h_5⟩; first | omega | simp_all)
  rw [hy_6] at he
  exact ⟨y_5, (hy_6).trans (congrArg Prod.fst he).symm, by rw [he], rfl⟩

set_option maxRecDepth 4000 in
set_option maxHeartbeats 1000000 in
theorem Y_sFolded (d : DX) (hz : d.dat.okz) (hl : d.dat.lim 1000000000) :
    Ct Tryz.prog 22 [.agg #[.slice d.a d.l.length d.c, str d.jt, .int .i64 d.js]] [] (fun w => SeesA w (rdsD d)) (fun v A' => ∃ y : DX, y.dat = d.dat.folded.1 ∧ v = .tuple #[.agg #[.slice y.a y.l.length y.c, str y.jt, .int .i64 y.js], .bool d.dat.folded.2] ∧ A' = [.rows (rdsD y)]) := by
  refine Ct.intro Tryz.func22 rfl Tryz.ntmps22 (lb rfl) fun w0 hpre => ?_
  have hs_1 : Sees w0 (.slice d.a d.l.length d.c) 3 d.l.length (d.l.flatMap encO) := (hpre).head
  have hi_2 : SeesA w0 (d.l.flatMap rdsO) := (hpre).tail
  have hjt := hz.k2
  have hdl : d.l.length ≤ 1000000000 := by have := hl.l0; simpa only [DX.dat, List.length_map] using this
  refine jC <| jF ?_
  refine jH rfl (kG (cs := [.slice d.a d.l.length d.c, str d.jt, iv d.js]) rfl rfl) ?_
  rintro _ _ ⟨b_3, rfl, rfl⟩
  refine jH rfl (jo (z := .agg #[.slice none 0 0, str [], iv 0]) (cs := [.slice none 0 0, str [], iv 0]) ko rfl) ?_
  rintro _ _ ⟨b_4, rfl, rfl⟩
  refine jA (jG (v := .bool false) rfl) <| jE <| jB <| jC <| jF <| jK (jO 1 (vs := [.slice d.a d.l.length d.c, str d.jt, iv d.js]) rfl rfl ke kd rfl rfl) ?_
  refine jH rfl (jI [] Tryz.call20 rfl (Y_sFoldB d hz hl) rfl (fun w hw => hw.seeOutA hpre nMA)) ?_
  rintro _ _ ⟨_, ⟨y_5, hy_6, rfl, rfl⟩, rfl⟩
  have hz_7 : y_5.dat.okz := by rw [hy_6]; exact foldB_okz hz
  have hl_8 : y_5.dat.lim 1000000000 := by rw [hy_6]; exact foldB_lim hz hl (by decide)
  refine jA (jD (v := .tuple #[.agg #[.slice y_5.a y_5.l.length y_5.c, str y_5.jt, iv y_5.js], .bool ((d.dat.foldB).2)]) rfl) <| jA (je (v := .agg #[.slice y_5.a y_5.l.length y_5.c, str y_5.jt, iv y_5.js]) rfl rfl) <| jA (je (v := .bool ((d.dat.foldB).2)) rfl rfl) ?_
  refine jH rfl (jo (z := .agg #[.slice none 0 0, str [], iv 0]) (cs := [.slice none 0 0, str [], iv 0]) ko rfl) ?_
  rintro _ _ ⟨b_9, rfl, rfl⟩
  refine jH rfl (ja 0 (vs := [.slice y_5.a y_5.l.length y_5.c, str y_5.jt, iv y_5.js]) (cs' := [.slice y_5.a y_5.l.length y_5.c, str y_5.jt, iv y_5.js]) rfl rfl rfl rfl kd rfl rfl (lb rfl) rfl) ?_
  rintro _ _ rfl
  refine jA (jG (v := .bool ((d.dat.foldB).2)) rfl) <| jE <| jB <| jC <| jC <| jF <| jA (jD (v := .bool ((d.dat.foldB).2)) rfl) <| jA (jp rfl) <| jE <| jB ?_
  rcases Bool.eq_false_or_eq_true ((d.dat.foldB).2) with h_10 | h_10
  · refine jR (cB (cN h_10)) <| jT <| jB <| jC <| jF <| jK (jO 0 (vs := [.slice y_5.a y_5.l.length y_5.c, str y_5.jt, iv y_5.js]) rfl rfl ke kd rfl rfl) ?_
    refine jH rfl (jI [] Tryz.call38 rfl (Y_sFoldE y_5 hz_7 hl_8) rfl (fun w hw => hw.seeRows 1 rfl)) ?_
    rintro _ _ ⟨_, ⟨y_11, hy_12, rfl, rfl⟩, rfl⟩
    have hz_13 : y_11.dat.okz := by rw [hy_12]; exact foldE_okz hz_7
    have hl_14 : y_11.dat.lim 1000000000 := by rw [hy_12]; exact foldE_lim hl_8
    refine jA (jD (v := .tuple #[.agg #[.slice y_11.a y_11.l.length y_11.c, str y_11.jt, iv y_11.js], .bool ((y_5.dat.foldE).2)]) rfl) <| jA (je (v := .agg #[.slice y_11.a y_11.l.length y_11.c, str y_11.jt, iv y_11.js]) rfl rfl) <| jA (je (v := .bool ((y_5.dat.foldE).2)) rfl rfl) ?_
    refine jH rfl (jo (z := .agg #[.slice none 0 0, str [], iv 0]) (cs := [.slice none 0 0, str [], iv 0]) ko rfl) ?_
    rintro _ _ ⟨b_15, rfl, rfl⟩
    refine jH rfl (ja 0 (vs := [.slice y_11.a y_11.l.length y_11.c, str y_11.jt, iv y_11.js]) (cs' := [.slice y_11.a y_11.l.length y_11.c, str y_11.jt, iv y_11.js]) rfl rfl rfl rfl kd rfl rfl (lb rfl) rfl) ?_
    rintro _ _ rfl
    refine jA (jG (v := .bool ((y_5.dat.foldE).2)) rfl) <| jE <| jB <| jC <| jC <| jF <| jA (jD (v := .bool ((y_5.dat.foldE).2)) rfl) <| jA (jp rfl) <| jE <| jB ?_
    rcases Bool.eq_false_or_eq_true ((y_5.dat.foldE).2) with h_16 | h_16
    · refine jR (cB (cN h_16)) <| jT <| jB <| jC <| jF <| jK (jO 0 (vs := [.slice y_11.a y_11.l.length y_11.c, str y_11.jt, iv y_11.js]) rfl rfl ke kd rfl rfl) ?_
      refine jH rfl (jI [] Tryz.call12 rfl (Y_sTrim y_11 hz_13 hl_14) rfl (fun w hw => hw.seeRows 1 rfl)) ?_
      rintro _ _ ⟨_, ⟨y_17, hy_18, rfl, rfl⟩, rfl⟩
      refine jH rfl (ja 5 (vs := [.slice y_17.a y_17.l.length y_17.c, str y_17.jt, iv y_17.js]) (cs' := [.slice y_17.a y_17.l.length y_17.c, str y_17.jt, iv y_17.js]) rfl rfl rfl rfl kd rfl rfl (lb rfl) rfl) ?_
      rintro _ _ rfl
      refine jA (jG (v := .bool true) rfl) <| jE <| jB <| jN <| kC (.inl rfl) rfl (kA (jO 5 (vs := [.slice y_17.a y_17.l.length y_17.c, str y_17.jt, iv y_17.js]) rfl rfl ke kd rfl rfl) ⟨_, rfl⟩) (jJ (v := .bool true) rfl) (tS 1 _) ?_
      have he := folded_yes (d := d.dat) (by constructor <;> simp_all)
      exact ⟨y_17, by rw [he, hy_18]; simp_all, by rw [he], rfl⟩
    refine jW (cB (cN h_16)) <| jC <| jF <| jK (jO 5 (vs := [.slice d.a d.l.length d.c, str d.jt, iv d.js]) rfl rfl ke kd rfl rfl) ?_
    refine jH rfl (jI [] Tryz.call56 rfl (Z_specl23Copy d hl) rfl (fun w hw => hw.seeOutA hpre nMA)) ?_
    rintro _ _ ⟨_, ⟨y_19, hy_20, rfl, rfl⟩, rfl⟩
    refine jH rfl (ja 5 (vs := [.slice y_19.a y_19.l.length y_19.c, str y_19.jt, iv y_19.js]) (cs' := [.slice y_19.a y_19.l.length y_19.c, str y_19.jt, iv y_19.js]) rfl rfl rfl rfl kd rfl rfl (lb rfl) rfl) ?_
    rintro _ _ rfl
    refine jA (jG (v := .bool false) rfl) <| jE <| jB <| jN <| jX <| kC (.inl rfl) rfl (kA (jO 5 (vs := [.slice y_19.a y_19.l.length y_19.c, str y_19.jt, iv y_19.js]) rfl rfl ke kd rfl rfl) ⟨_, rfl⟩) (jJ (v := .bool false) rfl) (tS 1 _) ?_
    have he := folded_no (d := d.dat) (by rintro ⟨h_1, h_2⟩; simp_all)
    exact ⟨y_19, by rw [he, hy_20] <;> first | rfl | exact foldB_back (by assumption), by rw [he], rfl⟩
  refine jW (cB (cN h_10)) <| jC <| jF <| jK (jO 0 (vs := [.slice y_5.a y_5.l.length y_5.c, str y_5.jt, iv y_5.js]) rfl rfl ke kd rfl rfl) ?_
  refine jH rfl (ja 2 (vs := [.slice y_5.a y_5.l.length y_5.c, str y_5.jt, iv y_5.js]) (cs' := [.slice y_5.a y_5.l.length y_5.c, str y_5.jt, iv y_5.js]) rfl rfl rfl rfl kd rfl rfl (lb rfl) rfl) ?_
  rintro _ _ rfl
  refine jA (jG (v := .bool false) rfl) <| jE <| jB <| jN <| jX <| kM (pick_perm [1] (A := [Res.rows (rdsD y_5)]) (F := [bk b_9 31 [.slice y_5.a y_5.l.length y_5.c, str y_5.jt, iv y_5.js], bk b_4 31 [.slice y_5.a y_5.l.length y_5.c, str y_5.jt, iv y_5.js], bk b_3 31 [.slice d.a d.l.length d.c, str d.jt, iv d.js]]) rfl).symm <| kC (.inl rfl) rfl (kA (jO 2 (vs := [.slice y_5.a y_5.l.length y_5.c, str y_5.jt, iv y_5.js]) rfl rfl ke kd rfl rfl) ⟨_, rfl⟩) (jJ (v := .bool false) rfl) (tS 1 _) ?_
  have he := folded_no (d := d.dat) (by rintro ⟨h_1, h_2⟩; simp_all)
  exact ⟨y_5, by rw [he, hy_6] <;> first | rfl | exact foldB_back (by assumption), by rw [he], rfl⟩

end Go.Proofs.YtjncpgcccgdeiaaGreatDoor
