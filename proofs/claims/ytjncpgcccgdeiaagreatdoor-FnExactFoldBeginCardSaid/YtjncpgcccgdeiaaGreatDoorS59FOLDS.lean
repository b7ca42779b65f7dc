/-
  Texts of the walk, joined: what each one proves stands at its theorems.
-/
import Derived.Test.YtjncpgcccgdeiaaGreatDoorS56FOLD
import Derived.Test.YtjncpgcccgdeiaaGreatDoorSlStr
set_option linter.unusedSimpArgs false
set_option linter.unusedVariables false
set_option linter.unnecessarySimpa false
namespace Go.Proofs.YtjncpgcccgdeiaaGreatDoor
open Go Go.RowKit
attribute [local irreducible] JL JC JQ JO LO PO JA JX Ct

set_option maxRecDepth 4000 in
set_option maxHeartbeats 1000000 in
theorem Y_sApply (a b : Option Addr) (c c' : Nat) (s l : List Cell) (hs : s.length ≤ 1000000000) (hl : l.length ≤ 1000000000) (hk : ∀ j, j < l.length → (l.getD j c0).1.length ≤ 20000) :
    Ct Tryz.prog 96 [.slice a s.length c, .slice b l.length c'] [] (fun w => Sees w (.slice a s.length c) 2 s.length (s.flatMap encC) ∧ Sees w (.slice b l.length c') 2 l.length (l.flatMap encC)) (fun v A' => ∃ x y, v = .slice x (applyR s l).length y ∧ A' = [.row (.slice x (applyR s l).length y) 48 2 (applyR s l).length ((applyR s l).flatMap encC)]) := by
  refine Ct.intro Tryz.func96 rfl Tryz.ntmps96 (Nat.le_of_ble_eq_true rfl) fun w0 hpre => ?_
  have hs_a : Sees w0 _ _ _ _ := hpre.1
  have hs_b : Sees w0 _ _ _ _ := hpre.2
  refine JC.seq ?_
  refine JC.region ?_
  refine JL.pure rfl (PO.assign (v := .slice none 0 0) rfl) ?_
  refine JL.nil ?_
  refine JQ.seq ?_
  refine JC.seq ?_
  refine JC.region ?_
  refine JL.op rfl (JO.buildSlice (ps := []) (cur := #[]) Tryz.underlying49 Tryz.sizeOf48 Tryz.zeroValue48 rfl (by kernel_rfl) (by decide) (by decide)) ?_
  rintro _ _ ⟨a_1, rfl, rfl⟩
  refine JL.pure rfl (PO.move (v := .slice a s.length c) rfl) ?_
  refine JL.op rfl (JO.append' 0 (q := s.length) (news := s.flatMap encC) (n' := s.length) (cs' := s.flatMap encC) rfl Tryz.underlying49 Tryz.underlying49 Tryz.typeInfo48 rfl (by' := 32) rfl rfl rfl rfl rfl (fun w hw => Src.sees (hw.seeOut_ hs_a (fun _ _ => List.not_mem_nil)) (oneC _)) (by (try simp only [List.length_append, List.length_cons, List.length_nil, List.length_take, List.length_drop]); omega) (by (try simp only [List.length_append, List.length_cons, List.length_nil, List.length_take, List.length_drop]); omega) (by (try simp only [List.length_take, List.length_drop]); first | rfl | omega) rfl) ?_
  rintro _ _ ⟨a_2, c_3, rfl, rfl⟩
  refine JL.pure rfl (PO.assign (v := .slice a_2 s.length c_3) rfl) ?_
  refine JL.nil ?_
  refine JQ.seq ?_
  refine JC.seq ?_
  refine JC.seq ?_
  refine JC.region ?_
  refine JL.pure rfl (PO.assign (v := .int .i64 0) rfl) ?_
  refine JL.nil ?_
  refine JQ.seq ?_
  refine JC.block ?_
  refine JC.loop (fun k_ e_ L_ => ∃ j : Nat, ∃ qa : Option Addr, ∃ qc : Nat, ∃ q : List Cell, (j ≤ l.length) ∧ (q.length ≤ s.length + j) ∧ (applyR q (l.drop j) = applyR s l) ∧ e_ 0 = .slice qa q.length qc ∧ e_ 1 = .slice b l.length c' ∧ e_ 4 = .slice none 0 0 ∧ e_ 5 = .int .i64 ((j : Nat) : Int) ∧ L_ = [rC qa qc q] ∧ k_ = l.length - j) _ ⟨0, a_2, c_3, s, by omega, by omega, rfl, rfl, rfl, rfl, rfl, rfl, rfl⟩ ?_
  rintro _ e_4 _ ⟨j, qa, qc, q, hj, hb, hR, he_5, he_6, he_7, he_8, rfl, rfl⟩
  refine JC.seq ?_
  refine JC.seq ?_
  refine JC.region ?_
  refine JL.pure rfl (PO.move (v := .int .i64 ((j : Nat) : Int)) he_8) ?_
  refine JL.pure rfl (PO.move (v := .slice b l.length c') he_6) ?_
  refine JL.pure rfl (PO.lenV Tryz.underlying49 rfl) ?_
  refine JL.pure rfl (PO.lss rfl rfl) ?_
  refine JL.nil ?_
  refine JQ.seq ?_
  by_cases h_9 : ((j : Nat) : Int) < ((l.length : Nat) : Int)
  · skip
    have hlt : j < l.length := by omega
    have hkl := hk j hlt
    have hpl := putKey_one q (l.getD j c0).1 (l.getD j c0).2
    refine JC.condT (congrArg Value.bool (decide_eq_true h_9)) ?_
    refine JC.skip ?_
    refine JQ.seq ?_
    refine JC.seq ?_
    refine JC.block ?_
    refine JC.regionA [rC qa qc q] 11 mixed (by simp) ?_
    refine JA.takeP 0 rfl (by kernel_rfl) (NP.bl (NP.th (NP.th (NP.bl (NP.th NP.body))))) (by kernel_rfl) (by kernel_rfl) rfl (PO.move (v := .slice qa q.length qc) he_5) ?_
    refine JA.takeP 1 rfl (by kernel_rfl) (NP.bl (NP.th (NP.th (NP.bl (NP.th NP.body))))) (by kernel_rfl) (by kernel_rfl) rfl (PO.move (v := .slice b l.length c') he_6) ?_
    refine JA.takeP 2 rfl (by kernel_rfl) (NP.bl (NP.th (NP.th (NP.bl (NP.th NP.body))))) (by kernel_rfl) (by kernel_rfl) rfl (PO.move (v := .int .i64 ((j : Nat) : Int)) he_8) ?_
    obtain ⟨hr_10, hr_10b, -⟩ := sees_some hs_b (by omega)
    refine JA.takeP 3 rfl (by kernel_rfl) (NP.bl (NP.th (NP.th (NP.bl (NP.th NP.body))))) (by kernel_rfl) (by kernel_rfl) rfl (PO.indexAddrV (i := j) Tryz.underlying49 Tryz.sizeOf48 hr_10 hr_10b rfl rfl (by omega)) ?_
    refine JA.takeP 4 rfl (by kernel_rfl) (NP.bl (NP.th (NP.th (NP.bl (NP.th NP.body))))) (by kernel_rfl) (by kernel_rfl) rfl (PO.fieldAddrE fo48_0 hr_10 rfl) ?_
    refine JA.take 5 rfl (by kernel_rfl) (NP.bl (NP.th (NP.th (NP.bl (NP.th NP.body))))) (by kernel_rfl) (by kernel_rfl) (by kernel_rfl) rfl (LO.loadS1 (v := str ((l.getD j c0).1)) hs_b (fun _ _ => List.not_mem_nil) rfl Tryz.isAgg9 (atC1 (by omega))) ?_
    refine JA.takeP 6 rfl (by kernel_rfl) (NP.bl (NP.th (NP.th (NP.bl (NP.th NP.body))))) (by kernel_rfl) (by kernel_rfl) rfl (PO.move (v := .slice b l.length c') he_6) ?_
    refine JA.takeP 7 rfl (by kernel_rfl) (NP.bl (NP.th (NP.th (NP.bl (NP.th NP.body))))) (by kernel_rfl) (by kernel_rfl) rfl (PO.move (v := .int .i64 ((j : Nat) : Int)) he_8) ?_
    refine JA.takeP 8 rfl (by kernel_rfl) (NP.bl (NP.th (NP.th (NP.bl (NP.th NP.body))))) (by kernel_rfl) (by kernel_rfl) rfl (PO.indexAddrV (i := j) Tryz.underlying49 Tryz.sizeOf48 hr_10 hr_10b rfl rfl (by omega)) ?_
    refine JA.takeP 9 rfl (by kernel_rfl) (NP.bl (NP.th (NP.th (NP.bl (NP.th NP.body))))) (by kernel_rfl) (by kernel_rfl) rfl (PO.fieldAddrE fo48_1 hr_10 rfl) ?_
    refine JA.take 10 rfl (by kernel_rfl) (NP.bl (NP.th (NP.th (NP.bl (NP.th NP.body))))) (by kernel_rfl) (by kernel_rfl) (by kernel_rfl) rfl (LO.loadS1 (v := str ((l.getD j c0).2)) hs_b (fun _ _ => List.not_mem_nil) rfl Tryz.isAgg9 (atC2 (by omega))) ?_
    refine JA.one (i := 11) (by kernel_rfl) ?_
    refine JX.late rfl rfl (by decide) (by kernel_rfl) (JO.call [] Tryz.call134 rfl (C_sPutKey qa qc q ((l.getD j c0).1) ((l.getD j c0).2) (by omega) (by omega)) rfl (fun w hw => hw.see (i := 0) rfl)) ?_
    rintro _ _ ⟨_, ⟨a_13, c_14, rfl, rfl⟩, rfl⟩
    refine JA.takeP 12 rfl (by kernel_rfl) (NP.bl (NP.th (NP.th (NP.bl (NP.th NP.body))))) (by kernel_rfl) (by kernel_rfl) rfl (PO.assign (v := .slice a_13 ((putKey q ((l.getD j c0).1) ((l.getD j c0).2)).length) c_14) rfl) ?_
    refine JA.done (by kernel_rfl) ?_
    refine JQ.blockN ?_
    refine JQ.seq ?_
    refine JC.region ?_
    refine JL.pure rfl (PO.move (v := .int .i64 ((j : Nat) : Int)) he_8) ?_
    refine JL.pure rfl (PO.add (c := ((j + 1 : Nat) : Int)) rfl rfl (wr (by omega))) ?_
    refine JL.pure rfl (PO.assign (v := .int .i64 ((j + 1 : Nat) : Int)) rfl) ?_
    refine JL.nil ?_
    refine JQ.pick [0] (A := [rC a_13 c_14 (putKey q ((l.getD j c0).1) ((l.getD j c0).2))]) rfl ?_
    refine JQ.again (l.length - (j + 1)) (by omega) ⟨j + 1, a_13, c_14, (putKey q ((l.getD j c0).1) ((l.getD j c0).2)), by omega, by omega, (by rw [applyR_step hlt] at hR; exact hR), rfl, he_6, he_7, rfl, rfl, rfl⟩
  · skip
    refine JC.condF (congrArg Value.bool (decide_eq_false h_9)) ?_
    refine JC.exit ?_
    refine JQ.thenExit ?_
    refine JQ.thenExit ?_
    refine JQ.blockE ?_
    refine JQ.seq ?_
    refine JC.seq ?_
    refine JC.region ?_
    refine JL.pure rfl (PO.move (v := .slice qa q.length qc) he_5) ?_
    refine JL.pure rfl (PO.assign (v := .slice qa q.length qc) rfl) ?_
    refine JL.nil ?_
    refine JQ.seq ?_
    refine JC.ret ?_
    refine Done.one (.inl rfl) rfl (RV.tmp (v := .slice qa q.length qc) rfl) (List.Sublist.refl _) ?_
    have he : q = applyR s l := by rw [show l.drop j = [] from List.drop_of_length_le (by omega)] at hR; exact hR
    exact ⟨qa, qc, by rw [he], by rw [he]⟩

set_option maxRecDepth 4000 in
set_option maxHeartbeats 1000000 in
theorem Y_iRecov (d : DX) (hz : d.dat.okz) (hl : d.dat.lim 1000000000) :
    Ct Tryz.prog 33 [.agg #[.slice d.a d.l.length d.c, str d.jt, .int .i64 d.js]] [] (fun w => SeesA w (rdsD d) ∧ HexOk w) (fun v A' => ∃ a c, v = .tuple #[.slice a d.dat.recov.1.length c, .int .i64 d.dat.recov.2] ∧ A' = [.row (.slice a d.dat.recov.1.length c) 48 2 d.dat.recov.1.length (d.dat.recov.1.flatMap encC)]) := by
  refine Ct.introL Tryz.func33 rfl Tryz.ntmps33 (Nat.le_of_ble_eq_true rfl) fun w0 hpre hlow => ?_
  have hs_1 : Sees w0 (.slice d.a d.l.length d.c) 3 d.l.length (d.l.flatMap encO) := (hpre.1).head
  have hi_2 : SeesA w0 (d.l.flatMap rdsO) := (hpre.1).tail
  have hjt := hz.k2
  have hdl : d.l.length ≤ 1000000000 := by have := hl.l0; simpa only [DX.dat, List.length_map] using this
  refine JC.seq ?_
  refine JC.region ?_
  refine JL.op rfl (JO.box (cs := [.slice d.a d.l.length d.c, str d.jt, .int .i64 d.js]) rfl rfl) ?_
  rintro _ _ ⟨b_3, rfl, rfl⟩
  refine JL.pure rfl (PO.assign (v := .slice none 0 0) rfl) ?_
  refine JL.pure rfl (PO.assign (v := .int .i64 0) rfl) ?_
  refine JL.nil ?_
  refine JQ.seq ?_
  refine JC.seq ?_
  refine JC.seq ?_
  refine JC.region ?_
  refine JL.ld rfl (LO.loadK 0 (vs := [.slice d.a d.l.length d.c, str d.jt, .int .i64 d.js]) rfl rfl Tryz.isAgg31 Tryz.sizeOf31 rfl rfl) ?_
  refine JL.op rfl (JO.call [] Tryz.call47 rfl (Y_implDiskOk d hz (by omega)) rfl (fun w hw => hw.seeOutA hpre.1 nMA)) ?_
  rintro _ _ ⟨_, ⟨rfl, rfl⟩, rfl⟩
  refine JL.pure rfl (PO.not rfl) ?_
  refine JL.nil ?_
  refine JQ.seq ?_
  rcases Bool.eq_false_or_eq_true (diskOk d.dat) with h_4 | h_4
  · skip
    refine JC.condF (congrArg Value.bool (congrArg Bool.not h_4)) ?_
    refine JC.skip ?_
    refine JQ.seq ?_
    refine JC.seq ?_
    obtain ⟨q, hq, hql⟩ := diskOk_best h_4
    have hql : q < d.l.length := by simpa only [DX.dat, List.length_map] using hql
    have hjr := diskOk_jour h_4
    have hjr2 : ((d.jt.length : Nat) : Int) ≤ 20000 ∧ 0 ≤ d.js ∧ d.js ≤ ((d.jt.length : Nat) : Int) := by have h_ : jourOk d.jt d.js = true := hjr; simpa only [jourOk, within, Bool.and_eq_true, decide_eq_true_eq, and_assoc] using h_
    have hmost : (d.l.getD q o0).t.seq = mostOf d.dat := by rw [mostOf, hq, Int.toNat_natCast]; exact congrArg SD.seq getD_map'.symm
    have hmr := most_range h_4
    have hl2 := disk_two h_4
    have hbc : (d.l.getD q o0).t.cells = (d.dat.slots.getD (bestD d.dat).toNat o0.t).cells := by rw [hq, Int.toNat_natCast]; exact congrArg SD.cells getD_map'.symm
    have hsl : (d.l.getD q o0).t.cells.length ≤ 900 := by rw [hbc]; exact storeOk_len (best_ok h_4).2.2.2
    have hrc := recsOf_cells d.jt ((d.l.getD q o0).t.seq + 1)
    have hrle := recsOf_le d.jt ((d.l.getD q o0).t.seq + 1)
    refine JC.regionA [bk b_3 31 [.slice d.a d.l.length d.c, str d.jt, .int .i64 d.js]] 7 mixed (by simp) ?_
    refine JA.takeP 0 rfl (by kernel_rfl) (NP.th NP.body) (by kernel_rfl) (by kernel_rfl) rfl (PO.fieldAddr fo31_0 rfl) ?_
    refine JA.take 1 rfl (by kernel_rfl) (NP.th NP.body) (by kernel_rfl) (by kernel_rfl) (by kernel_rfl) rfl (LO.load1 0 (v := .slice d.a d.l.length d.c) rfl rfl Tryz.isAgg28 rfl) ?_
    refine JA.take 2 rfl (by kernel_rfl) (NP.th NP.body) (by kernel_rfl) (by kernel_rfl) (by kernel_rfl) rfl (LO.loadK 0 (vs := [.slice d.a d.l.length d.c, str d.jt, .int .i64 d.js]) rfl rfl Tryz.isAgg31 Tryz.sizeOf31 rfl rfl) ?_
    refine JA.two (i := 3) (j := 6) (by kernel_rfl) ?_ ?_
    · skip
      refine JX.op rfl rfl (JO.call [] Tryz.call48 rfl (Y_iBestN d hz (by omega) q hq) rfl (fun w hw => hw.seeOutA hpre.1 nMA)) ?_
      rintro _ _ ⟨_, ⟨rfl, rfl⟩, rfl⟩
      refine ⟨by simp, ?_⟩
      obtain ⟨hr_6, hr_6b, -⟩ := sees_some hs_1 (by omega)
      refine JA.takeP 4 rfl (by kernel_rfl) (NP.th NP.body) (by kernel_rfl) (by kernel_rfl) rfl (PO.indexAddrV (i := q) Tryz.underlying28 Tryz.sizeOf60 hr_6 hr_6b rfl rfl (by omega)) ?_
      have hi_7 := SeesA.elem hi_2 o0 (show q < d.l.length by omega)
      have hs_8 := seesO hi_7
      refine JA.take 5 rfl (by kernel_rfl) (NP.th NP.body) (by kernel_rfl) (by kernel_rfl) (by kernel_rfl) rfl (LO.loadSK (vs := [.int .i64 ((d.l.getD q o0).t.seq), .slice ((d.l.getD q o0).x.a0) ((d.l.getD q o0).t.cells.length) ((d.l.getD q o0).x.c0), .bool ((d.l.getD q o0).t.whole)]) hs_1 (fun _ _ => List.not_mem_nil) rfl Tryz.isAgg60 Tryz.sizeOf60 (flat_take encO_len o0 d.l q (by omega)) rfl (by decide)) ?_
      refine JA.one (i := 6) (by kernel_rfl) ?_
      refine JX.op rfl rfl (JO.alloc (z := .agg #[.int .i64 0, .slice none 0 0, .bool false]) (cs := [.int .i64 0, .slice none 0 0, .bool false]) Tryz.zeroValue60 rfl) ?_
      rintro _ _ ⟨b_10, rfl, rfl⟩
      refine ⟨by simp, ?_⟩
      refine JA.one (i := 7) (by kernel_rfl) ?_
      refine JX.last rfl rfl (by decide) (by kernel_rfl) (JO.store 0 (vs := [.int .i64 ((d.l.getD q o0).t.seq), .slice ((d.l.getD q o0).x.a0) ((d.l.getD q o0).t.cells.length) ((d.l.getD q o0).x.c0), .bool ((d.l.getD q o0).t.whole)]) (cs' := [.int .i64 ((d.l.getD q o0).t.seq), .slice ((d.l.getD q o0).x.a0) ((d.l.getD q o0).t.cells.length) ((d.l.getD q o0).x.c0), .bool ((d.l.getD q o0).t.whole)]) rfl rfl rfl rfl Tryz.sizeOf60 rfl rfl (Nat.le_of_ble_eq_true rfl) rfl) ?_
      rintro _ _ rfl
      refine JQ.seq ?_
      refine JC.seq ?_
      refine JC.region ?_
      refine JL.pure rfl (PO.fieldAddr fo31_1 rfl) ?_
      refine JL.pure rfl (PO.fieldAddr fo29_0 rfl) ?_
      refine JL.ld rfl (LO.load1 1 (v := str d.jt) rfl rfl Tryz.isAgg9 rfl) ?_
      refine JL.pure rfl (PO.fieldAddr fo60_0 rfl) ?_
      refine JL.ld rfl (LO.load1 0 (v := .int .i64 ((d.l.getD q o0).t.seq)) rfl rfl Tryz.isAgg3 rfl) ?_
      refine JL.pure rfl (PO.add (c := ((d.l.getD q o0).t.seq) + 1) rfl rfl (wr (by omega))) ?_
      refine JL.op rfl (JO.call [] Tryz.call70 rfl (Y_iRecs d.jt (((d.l.getD q o0).t.seq) + 1) (by omega)) rfl (fun w hw => hw.hex hlow hpre.2)) ?_
      rintro _ _ ⟨_, ⟨a_11, c_12, y_13, hy_14, rfl, rfl⟩, rfl⟩
      refine JL.pure rfl (PO.move (v := .tuple #[.slice a_11 y_13.length c_12, .int .i64 (((recsOf d.jt (((d.l.getD q o0).t.seq) + 1)).2 : Nat) : Int)]) rfl) ?_
      refine JL.pure rfl (PO.extract (v := .slice a_11 y_13.length c_12) rfl rfl) ?_
      refine JL.pure rfl (PO.extract (v := .int .i64 (((recsOf d.jt (((d.l.getD q o0).t.seq) + 1)).2 : Nat) : Int)) rfl rfl) ?_
      refine JL.pure rfl (PO.assign (v := .slice a_11 y_13.length c_12) rfl) ?_
      refine JL.pure rfl (PO.assign (v := .int .i64 (((recsOf d.jt (((d.l.getD q o0).t.seq) + 1)).2 : Nat) : Int)) rfl) ?_
      refine JL.nil ?_
      refine JQ.seq ?_
      refine JC.seq ?_
      refine JC.region ?_
      refine JL.pure rfl (PO.fieldAddr fo60_1 rfl) ?_
      refine JL.ld rfl (LO.load1 1 (v := .slice ((d.l.getD q o0).x.a0) ((d.l.getD q o0).t.cells.length) ((d.l.getD q o0).x.c0)) rfl rfl Tryz.isAgg49 rfl) ?_
      refine JL.op rfl (JO.call [] Tryz.call74 rfl (C_cloneC (d.l.getD q o0).x.a0 ((d.l.getD q o0).x.c0) ((d.l.getD q o0).t.cells) (by omega)) rfl (fun w hw => hw.seeOut_ hs_8 (fun _ _ => List.not_mem_nil))) ?_
      rintro _ _ ⟨_, ⟨a_15, c_16, rfl, rfl⟩, rfl⟩
      refine JL.pure rfl (PO.assign (v := .slice a_15 (((d.l.getD q o0).t.cells).length) c_16) rfl) ?_
      refine JL.nil ?_
      refine JQ.seq ?_
      refine JC.seq ?_
      refine JC.seq ?_
      have hys : y_13.map cellsR = (recsOf d.jt ((d.l.getD q o0).t.seq + 1)).1 := hy_14
      have hyc : sumC (y_13.map cellsR) ≤ 20000 := by rw [hys]; omega
      have hyn : y_13.length ≤ 20000 := by have h_ := congrArg List.length hys; rw [List.length_map] at h_; have h2_ := recsOf_count d.jt ((d.l.getD q o0).t.seq + 1); omega
      refine JC.region ?_
      refine JL.pure rfl (PO.move (v := .slice a_11 y_13.length c_12) rfl) ?_
      refine JL.pure rfl (PO.lenV Tryz.underlying82 rfl) ?_
      refine JL.pure rfl (PO.move (v := .int .i64 0) rfl) ?_
      refine JL.nil ?_
      refine JQ.seq ?_
      refine JC.block ?_
      refine JC.ghost (L' := [Res.row (.slice a_11 y_13.length c_12) 49 1 y_13.length (y_13.flatMap encR), Res.rows (y_13.flatMap rdsR), rC a_15 c_16 ((d.l.getD q o0).t.cells), bk b_10 60 [.int .i64 ((d.l.getD q o0).t.seq), .slice ((d.l.getD q o0).x.a0) ((d.l.getD q o0).t.cells.length) ((d.l.getD q o0).x.c0), .bool ((d.l.getD q o0).t.whole)], bk b_3 31 [.slice d.a d.l.length d.c, str d.jt, .int .i64 d.js]]) (fun w hw => hw.headR (r := ⟨.slice a_11 y_13.length c_12, 49, 1, y_13.length, y_13.flatMap encR⟩) (A := y_13.flatMap rdsR) 1 rfl) ?_
      refine JC.ghost (L' := [rC a_15 c_16 ((d.l.getD q o0).t.cells), Res.row (.slice a_11 y_13.length c_12) 49 1 y_13.length (y_13.flatMap encR), Res.rows (y_13.flatMap rdsR), bk b_10 60 [.int .i64 ((d.l.getD q o0).t.seq), .slice ((d.l.getD q o0).x.a0) ((d.l.getD q o0).t.cells.length) ((d.l.getD q o0).x.c0), .bool ((d.l.getD q o0).t.whole)], bk b_3 31 [.slice d.a d.l.length d.c, str d.jt, .int .i64 d.js]]) (fun w hw => hw.perm (pick_perm [2] (A := [rC a_15 c_16 ((d.l.getD q o0).t.cells)]) (F := [Res.row (.slice a_11 y_13.length c_12) 49 1 y_13.length (y_13.flatMap encR), Res.rows (y_13.flatMap rdsR), bk b_10 60 [.int .i64 ((d.l.getD q o0).t.seq), .slice ((d.l.getD q o0).x.a0) ((d.l.getD q o0).t.cells.length) ((d.l.getD q o0).x.c0), .bool ((d.l.getD q o0).t.whole)], bk b_3 31 [.slice d.a d.l.length d.c, str d.jt, .int .i64 d.js]]) rfl).symm) ?_
      refine JC.loop (fun k_ e_ L_ => ∃ j : Nat, ∃ sa : Option Addr, ∃ sc : Nat, ∃ s_ : List Cell, (j ≤ y_13.length) ∧ (s_.length + sumC ((y_13.map cellsR).drop j) ≤ 30000) ∧ (applyAll s_ ((y_13.map cellsR).drop j) = applyAll (d.l.getD q o0).t.cells (y_13.map cellsR)) ∧ e_ 2 = .slice none 0 0 ∧ e_ 3 = .int .i64 0 ∧ e_ 4 = .pointer (some ⟨b_10, 0, none⟩) ∧ e_ 5 = .slice a_11 y_13.length c_12 ∧ e_ 7 = .slice sa s_.length sc ∧ e_ 34 = .slice a_11 y_13.length c_12 ∧ e_ 35 = .int .i64 ((y_13.length : Nat) : Int) ∧ e_ 36 = .int .i64 ((j : Nat) : Int) ∧ L_ = [rC sa sc s_, Res.row (.slice a_11 y_13.length c_12) 49 1 y_13.length (y_13.flatMap encR), Res.rows (y_13.flatMap rdsR), bk b_10 60 [.int .i64 ((d.l.getD q o0).t.seq), .slice ((d.l.getD q o0).x.a0) ((d.l.getD q o0).t.cells.length) ((d.l.getD q o0).x.c0), .bool ((d.l.getD q o0).t.whole)], bk b_3 31 [.slice d.a d.l.length d.c, str d.jt, .int .i64 d.js]] ∧ k_ = y_13.length - j) _ ⟨0, a_15, c_16, (d.l.getD q o0).t.cells, by omega, (by rw [List.drop_zero]; omega), rfl, rfl, rfl, rfl, rfl, rfl, rfl, rfl, rfl, rfl, rfl⟩ ?_
      rintro _ e_17 _ ⟨j, sa, sc, s_, hj, hb, hR, he_18, he_19, he_20, he_21, he_22, he_23, he_24, he_25, rfl, rfl⟩
      refine JC.seq ?_
      refine JC.region ?_
      refine JL.pure rfl (PO.lss he_25 he_24) ?_
      refine JL.nil ?_
      refine JQ.seq ?_
      refine JC.seq ?_
      by_cases h_26 : ((j : Nat) : Int) < ((y_13.length : Nat) : Int)
      · skip
        have hlt : j < y_13.length := by omega
        have hsc := sumC_step hlt
        refine JC.condT (congrArg Value.bool (decide_eq_true h_26)) ?_
        refine JC.skip ?_
        refine JQ.seq ?_
        refine JC.seq ?_
        refine JC.block ?_
        refine JC.seq ?_
        refine JC.region ?_
        refine JL.facts fun hst => ?_
        obtain ⟨hr_27, hr_27b, -⟩ := row_some 1 rfl (by omega) hst
        refine JL.pure rfl (PO.indexAddrV (i := j) Tryz.underlying82 Tryz.sizeOf49 hr_27 hr_27b he_23 he_25 (by omega)) ?_
        refine JL.ld rfl (LO.loadR1 1 (v := .slice ((y_13.getD j r0).x.a0) ((y_13.getD j r0).t.cells.length) ((y_13.getD j r0).x.c0)) rfl rfl Tryz.isAgg49 (flat_at encR_len r0 y_13 j 0 (by omega) (by decide))) ?_
        refine JL.pure rfl (PO.assign (v := .slice ((y_13.getD j r0).x.a0) ((y_13.getD j r0).t.cells.length) ((y_13.getD j r0).x.c0)) rfl) ?_
        refine JL.nil ?_
        refine JQ.seq ?_
        refine JC.seq ?_
        refine JC.ghost (L' := [Res.rows ((y_13.take j).flatMap rdsR), Res.rows (rdsR (y_13.getD j r0)), Res.rows ((y_13.drop (j + 1)).flatMap rdsR), rC sa sc s_, Res.row (.slice a_11 y_13.length c_12) 49 1 y_13.length (y_13.flatMap encR), bk b_10 60 [.int .i64 ((d.l.getD q o0).t.seq), .slice ((d.l.getD q o0).x.a0) ((d.l.getD q o0).t.cells.length) ((d.l.getD q o0).x.c0), .bool ((d.l.getD q o0).t.whole)], bk b_3 31 [.slice d.a d.l.length d.c, str d.jt, .int .i64 d.js]]) (fun w hw => hw.splitR 2 rfl (flatMap_at r0 hlt)) ?_
        refine JC.ghost (L' := [Res.row (.slice ((y_13.getD j r0).x.a0) ((y_13.getD j r0).t.cells.length) ((y_13.getD j r0).x.c0)) 48 2 (((y_13.getD j r0).t.cells).length) (((y_13.getD j r0).t.cells).flatMap encC), Res.rows ((y_13.take j).flatMap rdsR), Res.rows ((y_13.drop (j + 1)).flatMap rdsR), rC sa sc s_, Res.row (.slice a_11 y_13.length c_12) 49 1 y_13.length (y_13.flatMap encR), bk b_10 60 [.int .i64 ((d.l.getD q o0).t.seq), .slice ((d.l.getD q o0).x.a0) ((d.l.getD q o0).t.cells.length) ((d.l.getD q o0).x.c0), .bool ((d.l.getD q o0).t.whole)], bk b_3 31 [.slice d.a d.l.length d.c, str d.jt, .int .i64 d.js]]) (fun w hw => hw.openR 1 rfl) ?_
        refine JC.region ?_
        refine JL.pure rfl (PO.move (v := .slice ((y_13.getD j r0).x.a0) ((y_13.getD j r0).t.cells.length) ((y_13.getD j r0).x.c0)) rfl) ?_
        refine JL.pure rfl (PO.lenV Tryz.underlying49 rfl) ?_
        refine JL.pure rfl (PO.move (v := .int .i64 0) rfl) ?_
        refine JL.nil ?_
        refine JQ.seq ?_
        refine JC.block ?_
        refine JC.ghost (L' := [rC sa sc s_, Res.row (.slice ((y_13.getD j r0).x.a0) ((y_13.getD j r0).t.cells.length) ((y_13.getD j r0).x.c0)) 48 2 (((y_13.getD j r0).t.cells).length) (((y_13.getD j r0).t.cells).flatMap encC), Res.rows ((y_13.take j).flatMap rdsR), Res.rows ((y_13.drop (j + 1)).flatMap rdsR), Res.row (.slice a_11 y_13.length c_12) 49 1 y_13.length (y_13.flatMap encR), bk b_10 60 [.int .i64 ((d.l.getD q o0).t.seq), .slice ((d.l.getD q o0).x.a0) ((d.l.getD q o0).t.cells.length) ((d.l.getD q o0).x.c0), .bool ((d.l.getD q o0).t.whole)], bk b_3 31 [.slice d.a d.l.length d.c, str d.jt, .int .i64 d.js]]) (fun w hw => hw.perm (pick_perm [3] (A := [rC sa sc s_]) (F := [Res.row (.slice ((y_13.getD j r0).x.a0) ((y_13.getD j r0).t.cells.length) ((y_13.getD j r0).x.c0)) 48 2 (((y_13.getD j r0).t.cells).length) (((y_13.getD j r0).t.cells).flatMap encC), Res.rows ((y_13.take j).flatMap rdsR), Res.rows ((y_13.drop (j + 1)).flatMap rdsR), Res.row (.slice a_11 y_13.length c_12) 49 1 y_13.length (y_13.flatMap encR), bk b_10 60 [.int .i64 ((d.l.getD q o0).t.seq), .slice ((d.l.getD q o0).x.a0) ((d.l.getD q o0).t.cells.length) ((d.l.getD q o0).x.c0), .bool ((d.l.getD q o0).t.whole)], bk b_3 31 [.slice d.a d.l.length d.c, str d.jt, .int .i64 d.js]]) rfl).symm) ?_
        refine JC.loop (fun k_ e_ L_ => ∃ i : Nat, ∃ qa : Option Addr, ∃ qc : Nat, ∃ q_ : List Cell, (i ≤ (y_13.getD j r0).t.cells.length) ∧ (q_.length + ((y_13.getD j r0).t.cells.length - i) ≤ s_.length + (y_13.getD j r0).t.cells.length) ∧ (applyR q_ ((y_13.getD j r0).t.cells.drop i) = applyR s_ (y_13.getD j r0).t.cells) ∧ e_ 2 = .slice none 0 0 ∧ e_ 3 = .int .i64 0 ∧ e_ 4 = .pointer (some ⟨b_10, 0, none⟩) ∧ e_ 5 = .slice a_11 y_13.length c_12 ∧ e_ 7 = .slice qa q_.length qc ∧ e_ 34 = .slice a_11 y_13.length c_12 ∧ e_ 35 = .int .i64 ((y_13.length : Nat) : Int) ∧ e_ 36 = .int .i64 ((j : Nat) : Int) ∧ e_ 40 = .slice ((y_13.getD j r0).x.a0) ((y_13.getD j r0).t.cells.length) ((y_13.getD j r0).x.c0) ∧ e_ 41 = .int .i64 (((y_13.getD j r0).t.cells.length : Nat) : Int) ∧ e_ 42 = .int .i64 ((i : Nat) : Int) ∧ L_ = [rC qa qc q_, Res.row (.slice ((y_13.getD j r0).x.a0) ((y_13.getD j r0).t.cells.length) ((y_13.getD j r0).x.c0)) 48 2 (((y_13.getD j r0).t.cells).length) (((y_13.getD j r0).t.cells).flatMap encC), Res.rows ((y_13.take j).flatMap rdsR), Res.rows ((y_13.drop (j + 1)).flatMap rdsR), Res.row (.slice a_11 y_13.length c_12) 49 1 y_13.length (y_13.flatMap encR), bk b_10 60 [.int .i64 ((d.l.getD q o0).t.seq), .slice ((d.l.getD q o0).x.a0) ((d.l.getD q o0).t.cells.length) ((d.l.getD q o0).x.c0), .bool ((d.l.getD q o0).t.whole)], bk b_3 31 [.slice d.a d.l.length d.c, str d.jt, .int .i64 d.js]] ∧ k_ = (y_13.getD j r0).t.cells.length - i) _ ⟨0, sa, sc, s_, by omega, by omega, rfl, he_18, he_19, he_20, he_21, he_22, he_23, he_24, he_25, rfl, rfl, rfl, rfl, rfl⟩ ?_
        rintro _ e_28 _ ⟨i, qa, qc, q_, hi, hb2, hR2, he_29, he_30, he_31, he_32, he_33, he_34, he_35, he_36, he_37, he_38, he_39, rfl, rfl⟩
        refine JC.seq ?_
        refine JC.region ?_
        refine JL.pure rfl (PO.lss he_39 he_38) ?_
        refine JL.nil ?_
        refine JQ.seq ?_
        refine JC.seq ?_
        by_cases h_40 : ((i : Nat) : Int) < (((y_13.getD j r0).t.cells.length : Nat) : Int)
        · skip
          have hlt2 : i < (y_13.getD j r0).t.cells.length := by omega
          have hkl := (rec_key hys hlt hlt2).1
          have hpl := putKey_one q_ ((y_13.getD j r0).t.cells.getD i c0).1 ((y_13.getD j r0).t.cells.getD i c0).2
          refine JC.condT (congrArg Value.bool (decide_eq_true h_40)) ?_
          refine JC.skip ?_
          refine JQ.seq ?_
          refine JC.seq ?_
          refine JC.block ?_
          refine JC.seq ?_
          refine JC.region ?_
          refine JL.facts fun hst => ?_
          obtain ⟨hr_41, hr_41b, -⟩ := row_some 1 rfl (by omega) hst
          refine JL.pure rfl (PO.indexAddrV (i := i) Tryz.underlying49 Tryz.sizeOf48 hr_41 hr_41b he_37 he_39 (by omega)) ?_
          refine JL.ld rfl (LO.loadRK 1 (vs := [str ((((y_13.getD j r0).t.cells).getD i c0).1), str ((((y_13.getD j r0).t.cells).getD i c0).2)]) rfl rfl Tryz.isAgg48 Tryz.sizeOf48 (atC (by omega)) rfl (by decide)) ?_
          refine JL.op rfl (JO.alloc (z := .agg #[str [], str []]) (cs := [str [], str []]) Tryz.zeroValue48 rfl) ?_
          rintro _ _ ⟨b_42, rfl, rfl⟩
          refine JL.op rfl (JO.store 0 (vs := [str ((((y_13.getD j r0).t.cells).getD i c0).1), str ((((y_13.getD j r0).t.cells).getD i c0).2)]) (cs' := [str ((((y_13.getD j r0).t.cells).getD i c0).1), str ((((y_13.getD j r0).t.cells).getD i c0).2)]) rfl rfl rfl rfl Tryz.sizeOf48 rfl rfl (Nat.le_of_ble_eq_true rfl) rfl) ?_
          rintro _ _ rfl
          refine JL.nil ?_
          refine JQ.seq ?_
          refine JC.region ?_
          refine JL.pure rfl (PO.move (v := .slice qa q_.length qc) he_33) ?_
          refine JL.pure rfl (PO.fieldAddr fo48_0 rfl) ?_
          refine JL.ld rfl (LO.load1 0 (v := str ((((y_13.getD j r0).t.cells).getD i c0).1)) rfl rfl Tryz.isAgg9 rfl) ?_
          refine JL.pure rfl (PO.fieldAddr fo48_1 rfl) ?_
          refine JL.ld rfl (LO.load1 0 (v := str ((((y_13.getD j r0).t.cells).getD i c0).2)) rfl rfl Tryz.isAgg9 rfl) ?_
          refine JL.op rfl (JO.call [1] Tryz.call86 rfl (C_put qa qc q_ ((((y_13.getD j r0).t.cells).getD i c0).1) ((((y_13.getD j r0).t.cells).getD i c0).2) (by omega) (by omega)) rfl (fun _ _ => trivial)) ?_
          rintro _ _ ⟨_, ⟨a_43, c_44, rfl, rfl⟩, rfl⟩
          refine JL.pure rfl (PO.assign (v := .slice a_43 ((putKey q_ ((((y_13.getD j r0).t.cells).getD i c0).1) ((((y_13.getD j r0).t.cells).getD i c0).2)).length) c_44) rfl) ?_
          refine JL.nil ?_
          refine JQ.blockN ?_
          refine JQ.seq ?_
          refine JC.region ?_
          refine JL.pure rfl (PO.add (c := ((i + 1 : Nat) : Int)) he_39 rfl (wr (by omega))) ?_
          refine JL.pure rfl (PO.move (v := .int .i64 ((i + 1 : Nat) : Int)) rfl) ?_
          refine JL.nil ?_
          refine JQ.pick [0, 1, 1, 1, 1, 1, 1] (A := [rC a_43 c_44 (putKey q_ ((((y_13.getD j r0).t.cells).getD i c0).1) ((((y_13.getD j r0).t.cells).getD i c0).2)), Res.row (.slice ((y_13.getD j r0).x.a0) ((y_13.getD j r0).t.cells.length) ((y_13.getD j r0).x.c0)) 48 2 (((y_13.getD j r0).t.cells).length) (((y_13.getD j r0).t.cells).flatMap encC), Res.rows ((y_13.take j).flatMap rdsR), Res.rows ((y_13.drop (j + 1)).flatMap rdsR), Res.row (.slice a_11 y_13.length c_12) 49 1 y_13.length (y_13.flatMap encR), bk b_10 60 [.int .i64 ((d.l.getD q o0).t.seq), .slice ((d.l.getD q o0).x.a0) ((d.l.getD q o0).t.cells.length) ((d.l.getD q o0).x.c0), .bool ((d.l.getD q o0).t.whole)], bk b_3 31 [.slice d.a d.l.length d.c, str d.jt, .int .i64 d.js]]) rfl ?_
          refine JQ.again ((y_13.getD j r0).t.cells.length - (i + 1)) (by omega) ⟨i + 1, a_43, c_44, (putKey q_ ((((y_13.getD j r0).t.cells).getD i c0).1) ((((y_13.getD j r0).t.cells).getD i c0).2)), by omega, by omega, (by rw [applyR_step hlt2] at hR2; exact hR2), he_29, he_30, he_31, he_32, rfl, he_34, he_35, he_36, he_37, he_38, rfl, rfl, rfl⟩
        · skip
          refine JC.condF (congrArg Value.bool (decide_eq_false h_40)) ?_
          refine JC.exit ?_
          refine JQ.thenExit ?_
          refine JQ.thenExit ?_
          refine JQ.blockE ?_
          refine JQ.blockN ?_
          refine JQ.seq ?_
          refine JC.region ?_
          refine JL.pure rfl (PO.add (c := ((j + 1 : Nat) : Int)) he_36 rfl (wr (by omega))) ?_
          refine JL.pure rfl (PO.move (v := .int .i64 ((j + 1 : Nat) : Int)) rfl) ?_
          refine JL.nil ?_
          refine JQ.ghost (L' := [Res.rows (rdsR (y_13.getD j r0)), rC qa qc q_, Res.rows ((y_13.take j).flatMap rdsR), Res.rows ((y_13.drop (j + 1)).flatMap rdsR), Res.row (.slice a_11 y_13.length c_12) 49 1 y_13.length (y_13.flatMap encR), bk b_10 60 [.int .i64 ((d.l.getD q o0).t.seq), .slice ((d.l.getD q o0).x.a0) ((d.l.getD q o0).t.cells.length) ((d.l.getD q o0).x.c0), .bool ((d.l.getD q o0).t.whole)], bk b_3 31 [.slice d.a d.l.length d.c, str d.jt, .int .i64 d.js]]) (fun w hw => hw.closeR (A := rdsR (y_13.getD j r0)) [1] rfl) ?_
          refine JQ.ghost (L' := [Res.rows (y_13.flatMap rdsR), rC qa qc q_, Res.row (.slice a_11 y_13.length c_12) 49 1 y_13.length (y_13.flatMap encR), bk b_10 60 [.int .i64 ((d.l.getD q o0).t.seq), .slice ((d.l.getD q o0).x.a0) ((d.l.getD q o0).t.cells.length) ((d.l.getD q o0).x.c0), .bool ((d.l.getD q o0).t.whole)], bk b_3 31 [.slice d.a d.l.length d.c, str d.jt, .int .i64 d.js]]) (fun w hw => hw.joinR [2, 0, 1] rfl (flatMap_at r0 hlt)) ?_
          refine JQ.pick [1, 1, 0, 0, 0] (A := [rC qa qc q_, Res.row (.slice a_11 y_13.length c_12) 49 1 y_13.length (y_13.flatMap encR), Res.rows (y_13.flatMap rdsR), bk b_10 60 [.int .i64 ((d.l.getD q o0).t.seq), .slice ((d.l.getD q o0).x.a0) ((d.l.getD q o0).t.cells.length) ((d.l.getD q o0).x.c0), .bool ((d.l.getD q o0).t.whole)], bk b_3 31 [.slice d.a d.l.length d.c, str d.jt, .int .i64 d.js]]) rfl ?_
          refine JQ.again (y_13.length - (j + 1)) (by omega) ⟨j + 1, qa, qc, q_, by omega, by omega, (by rw [applyAll_step hlt] at hR; rw [show (y_13.getD j r0).t.cells.drop i = [] from List.drop_of_length_le (by omega)] at hR2; rw [← hR2] at hR; exact hR), he_29, he_30, he_31, he_32, he_33, he_34, he_35, rfl, rfl, rfl⟩
      · skip
        refine JC.condF (congrArg Value.bool (decide_eq_false h_26)) ?_
        refine JC.exit ?_
        refine JQ.thenExit ?_
        refine JQ.thenExit ?_
        refine JQ.blockE ?_
        refine JQ.seq ?_
        refine JC.seq ?_
        refine JC.regionA [rC sa sc s_, Res.row (.slice a_11 y_13.length c_12) 49 1 y_13.length (y_13.flatMap encR), Res.rows (y_13.flatMap rdsR), bk b_10 60 [.int .i64 ((d.l.getD q o0).t.seq), .slice ((d.l.getD q o0).x.a0) ((d.l.getD q o0).t.cells.length) ((d.l.getD q o0).x.c0), .bool ((d.l.getD q o0).t.whole)], bk b_3 31 [.slice d.a d.l.length d.c, str d.jt, .int .i64 d.js]] 0 mixed (by simp) ?_
        refine JA.takeP 0 rfl (by kernel_rfl) (NP.th NP.body) (by kernel_rfl) (by kernel_rfl) rfl (PO.move (v := .slice sa s_.length sc) he_22) ?_
        refine JA.takeP 1 rfl (by kernel_rfl) (NP.th NP.body) (by kernel_rfl) (by kernel_rfl) rfl (PO.fieldAddr fo60_0 he_20) ?_
        refine JA.takeP 3 rfl (by kernel_rfl) (NP.th NP.body) (by kernel_rfl) (by kernel_rfl) rfl (PO.move (v := .slice a_11 y_13.length c_12) he_21) ?_
        refine JA.takeP 4 rfl (by kernel_rfl) (NP.th NP.body) (by kernel_rfl) (by kernel_rfl) rfl (PO.lenV Tryz.underlying82 rfl) ?_
        refine JA.takeP 6 rfl (by kernel_rfl) (NP.th NP.body) (by kernel_rfl) (by kernel_rfl) rfl (PO.assign (v := .slice sa s_.length sc) rfl) ?_
        refine JA.one (i := 2) (by kernel_rfl) ?_
        refine JX.late rfl rfl (by decide) (by kernel_rfl) (JO.ofLO (LO.load1 3 (v := .int .i64 ((d.l.getD q o0).t.seq)) rfl rfl Tryz.isAgg3 rfl)) ?_
        rintro _ _ ⟨rfl, rfl⟩
        refine JA.takeP 5 rfl (by kernel_rfl) (NP.th NP.body) (by kernel_rfl) (by kernel_rfl) rfl (PO.add (c := ((d.l.getD q o0).t.seq) + ((y_13.length : Nat) : Int)) rfl rfl (wr (by omega))) ?_
        refine JA.takeP 7 rfl (by kernel_rfl) (NP.th NP.body) (by kernel_rfl) (by kernel_rfl) rfl (PO.assign (v := .int .i64 (((d.l.getD q o0).t.seq) + ((y_13.length : Nat) : Int))) rfl) ?_
        refine JA.done (by kernel_rfl) ?_
        refine JQ.seq ?_
        refine JC.ret ?_
        refine Done.two (.inl rfl) rfl (RV.tmp (v := .slice sa s_.length sc) rfl) (RV.tmp (v := .int .i64 (((d.l.getD q o0).t.seq) + ((y_13.length : Nat) : Int))) rfl) (List.sublist_append_left [rC sa sc s_] [Res.row (.slice a_11 y_13.length c_12) 49 1 y_13.length (y_13.flatMap encR), Res.rows (y_13.flatMap rdsR), bk b_10 60 [.int .i64 ((d.l.getD q o0).t.seq), .slice ((d.l.getD q o0).x.a0) ((d.l.getD q o0).t.cells.length) ((d.l.getD q o0).x.c0), .bool ((d.l.getD q o0).t.whole)], bk b_3 31 [.slice d.a d.l.length d.c, str d.jt, .int .i64 d.js]]) ?_
        have hf : s_ = applyAll (d.l.getD q o0).t.cells (y_13.map cellsR) := by rw [show (y_13.map cellsR).drop j = [] from List.drop_of_length_le (by rw [List.length_map]; omega)] at hR; exact hR
        have he := recov_eq h_4 hbc hmost hys hf (List.length_map _)
        exact ⟨sa, sc, by rw [he], by rw [he]⟩
    · skip
      refine JX.op rfl rfl (JO.alloc (z := .agg #[.int .i64 0, .slice none 0 0, .bool false]) (cs := [.int .i64 0, .slice none 0 0, .bool false]) Tryz.zeroValue60 rfl) ?_
      rintro _ _ ⟨b_45, rfl, rfl⟩
      refine ⟨by simp, ?_⟩
      refine JA.one (i := 3) (by kernel_rfl) ?_
      refine JX.op rfl rfl (JO.call [] Tryz.call48 rfl (Y_iBestN d hz (by omega) q hq) rfl (fun w hw => hw.seeOutA hpre.1 nMA)) ?_
      rintro _ _ ⟨_, ⟨rfl, rfl⟩, rfl⟩
      refine ⟨by simp, ?_⟩
      obtain ⟨hr_46, hr_46b, -⟩ := sees_some hs_1 (by omega)
      refine JA.takeP 4 rfl (by kernel_rfl) (NP.th NP.body) (by kernel_rfl) (by kernel_rfl) rfl (PO.indexAddrV (i := q) Tryz.underlying28 Tryz.sizeOf60 hr_46 hr_46b rfl rfl (by omega)) ?_
      have hi_47 := SeesA.elem hi_2 o0 (show q < d.l.length by omega)
      have hs_48 := seesO hi_47
      refine JA.take 5 rfl (by kernel_rfl) (NP.th NP.body) (by kernel_rfl) (by kernel_rfl) (by kernel_rfl) rfl (LO.loadSK (vs := [.int .i64 ((d.l.getD q o0).t.seq), .slice ((d.l.getD q o0).x.a0) ((d.l.getD q o0).t.cells.length) ((d.l.getD q o0).x.c0), .bool ((d.l.getD q o0).t.whole)]) hs_1 (fun _ _ => List.not_mem_nil) rfl Tryz.isAgg60 Tryz.sizeOf60 (flat_take encO_len o0 d.l q (by omega)) rfl (by decide)) ?_
      refine JA.one (i := 7) (by kernel_rfl) ?_
      refine JX.last rfl rfl (by decide) (by kernel_rfl) (JO.store 0 (vs := [.int .i64 ((d.l.getD q o0).t.seq), .slice ((d.l.getD q o0).x.a0) ((d.l.getD q o0).t.cells.length) ((d.l.getD q o0).x.c0), .bool ((d.l.getD q o0).t.whole)]) (cs' := [.int .i64 ((d.l.getD q o0).t.seq), .slice ((d.l.getD q o0).x.a0) ((d.l.getD q o0).t.cells.length) ((d.l.getD q o0).x.c0), .bool ((d.l.getD q o0).t.whole)]) rfl rfl rfl rfl Tryz.sizeOf60 rfl rfl (Nat.le_of_ble_eq_true rfl) rfl) ?_
      rintro _ _ rfl
      refine JQ.seq ?_
      refine JC.seq ?_
      refine JC.region ?_
      refine JL.pure rfl (PO.fieldAddr fo31_1 rfl) ?_
      refine JL.pure rfl (PO.fieldAddr fo29_0 rfl) ?_
      refine JL.ld rfl (LO.load1 1 (v := str d.jt) rfl rfl Tryz.isAgg9 rfl) ?_
      refine JL.pure rfl (PO.fieldAddr fo60_0 rfl) ?_
      refine JL.ld rfl (LO.load1 0 (v := .int .i64 ((d.l.getD q o0).t.seq)) rfl rfl Tryz.isAgg3 rfl) ?_
      refine JL.pure rfl (PO.add (c := ((d.l.getD q o0).t.seq) + 1) rfl rfl (wr (by omega))) ?_
      refine JL.op rfl (JO.call [] Tryz.call70 rfl (Y_iRecs d.jt (((d.l.getD q o0).t.seq) + 1) (by omega)) rfl (fun w hw => hw.hex hlow hpre.2)) ?_
      rintro _ _ ⟨_, ⟨a_49, c_50, y_51, hy_52, rfl, rfl⟩, rfl⟩
      refine JL.pure rfl (PO.move (v := .tuple #[.slice a_49 y_51.length c_50, .int .i64 (((recsOf d.jt (((d.l.getD q o0).t.seq) + 1)).2 : Nat) : Int)]) rfl) ?_
      refine JL.pure rfl (PO.extract (v := .slice a_49 y_51.length c_50) rfl rfl) ?_
      refine JL.pure rfl (PO.extract (v := .int .i64 (((recsOf d.jt (((d.l.getD q o0).t.seq) + 1)).2 : Nat) : Int)) rfl rfl) ?_
      refine JL.pure rfl (PO.assign (v := .slice a_49 y_51.length c_50) rfl) ?_
      refine JL.pure rfl (PO.assign (v := .int .i64 (((recsOf d.jt (((d.l.getD q o0).t.seq) + 1)).2 : Nat) : Int)) rfl) ?_
      refine JL.nil ?_
      refine JQ.seq ?_
      refine JC.seq ?_
      refine JC.region ?_
      refine JL.pure rfl (PO.fieldAddr fo60_1 rfl) ?_
      refine JL.ld rfl (LO.load1 1 (v := .slice ((d.l.getD q o0).x.a0) ((d.l.getD q o0).t.cells.length) ((d.l.getD q o0).x.c0)) rfl rfl Tryz.isAgg49 rfl) ?_
      refine JL.op rfl (JO.call [] Tryz.call74 rfl (C_cloneC (d.l.getD q o0).x.a0 ((d.l.getD q o0).x.c0) ((d.l.getD q o0).t.cells) (by omega)) rfl (fun w hw => hw.seeOut_ hs_48 (fun _ _ => List.not_mem_nil))) ?_
      rintro _ _ ⟨_, ⟨a_53, c_54, rfl, rfl⟩, rfl⟩
      refine JL.pure rfl (PO.assign (v := .slice a_53 (((d.l.getD q o0).t.cells).length) c_54) rfl) ?_
      refine JL.nil ?_
      refine JQ.seq ?_
      refine JC.seq ?_
      refine JC.seq ?_
      have hys : y_51.map cellsR = (recsOf d.jt ((d.l.getD q o0).t.seq + 1)).1 := hy_52
      have hyc : sumC (y_51.map cellsR) ≤ 20000 := by rw [hys]; omega
      have hyn : y_51.length ≤ 20000 := by have h_ := congrArg List.length hys; rw [List.length_map] at h_; have h2_ := recsOf_count d.jt ((d.l.getD q o0).t.seq + 1); omega
      refine JC.region ?_
      refine JL.pure rfl (PO.move (v := .slice a_49 y_51.length c_50) rfl) ?_
      refine JL.pure rfl (PO.lenV Tryz.underlying82 rfl) ?_
      refine JL.pure rfl (PO.move (v := .int .i64 0) rfl) ?_
      refine JL.nil ?_
      refine JQ.seq ?_
      refine JC.block ?_
      refine JC.ghost (L' := [Res.row (.slice a_49 y_51.length c_50) 49 1 y_51.length (y_51.flatMap encR), Res.rows (y_51.flatMap rdsR), rC a_53 c_54 ((d.l.getD q o0).t.cells), bk b_45 60 [.int .i64 ((d.l.getD q o0).t.seq), .slice ((d.l.getD q o0).x.a0) ((d.l.getD q o0).t.cells.length) ((d.l.getD q o0).x.c0), .bool ((d.l.getD q o0).t.whole)], bk b_3 31 [.slice d.a d.l.length d.c, str d.jt, .int .i64 d.js]]) (fun w hw => hw.headR (r := ⟨.slice a_49 y_51.length c_50, 49, 1, y_51.length, y_51.flatMap encR⟩) (A := y_51.flatMap rdsR) 1 rfl) ?_
      refine JC.ghost (L' := [rC a_53 c_54 ((d.l.getD q o0).t.cells), Res.row (.slice a_49 y_51.length c_50) 49 1 y_51.length (y_51.flatMap encR), Res.rows (y_51.flatMap rdsR), bk b_45 60 [.int .i64 ((d.l.getD q o0).t.seq), .slice ((d.l.getD q o0).x.a0) ((d.l.getD q o0).t.cells.length) ((d.l.getD q o0).x.c0), .bool ((d.l.getD q o0).t.whole)], bk b_3 31 [.slice d.a d.l.length d.c, str d.jt, .int .i64 d.js]]) (fun w hw => hw.perm (pick_perm [2] (A := [rC a_53 c_54 ((d.l.getD q o0).t.cells)]) (F := [Res.row (.slice a_49 y_51.length c_50) 49 1 y_51.length (y_51.flatMap encR), Res.rows (y_51.flatMap rdsR), bk b_45 60 [.int .i64 ((d.l.getD q o0).t.seq), .slice ((d.l.getD q o0).x.a0) ((d.l.getD q o0).t.cells.length) ((d.l.getD q o0).x.c0), .bool ((d.l.getD q o0).t.whole)], bk b_3 31 [.slice d.a d.l.length d.c, str d.jt, .int .i64 d.js]]) rfl).symm) ?_
      refine JC.loop (fun k_ e_ L_ => ∃ j : Nat, ∃ sa : Option Addr, ∃ sc : Nat, ∃ s_ : List Cell, (j ≤ y_51.length) ∧ (s_.length + sumC ((y_51.map cellsR).drop j) ≤ 30000) ∧ (applyAll s_ ((y_51.map cellsR).drop j) = applyAll (d.l.getD q o0).t.cells (y_51.map cellsR)) ∧ e_ 2 = .slice none 0 0 ∧ e_ 3 = .int .i64 0 ∧ e_ 4 = .pointer (some ⟨b_45, 0, none⟩) ∧ e_ 5 = .slice a_49 y_51.length c_50 ∧ e_ 7 = .slice sa s_.length sc ∧ e_ 34 = .slice a_49 y_51.length c_50 ∧ e_ 35 = .int .i64 ((y_51.length : Nat) : Int) ∧ e_ 36 = .int .i64 ((j : Nat) : Int) ∧ L_ = [rC sa sc s_, Res.row (.slice a_49 y_51.length c_50) 49 1 y_51.length (y_51.flatMap encR), Res.rows (y_51.flatMap rdsR), bk b_45 60 [.int .i64 ((d.l.getD q o0).t.seq), .slice ((d.l.getD q o0).x.a0) ((d.l.getD q o0).t.cells.length) ((d.l.getD q o0).x.c0), .bool ((d.l.getD q o0).t.whole)], bk b_3 31 [.slice d.a d.l.length d.c, str d.jt, .int .i64 d.js]] ∧ k_ = y_51.length - j) _ ⟨0, a_53, c_54, (d.l.getD q o0).t.cells, by omega, (by rw [List.drop_zero]; omega), rfl, rfl, rfl, rfl, rfl, rfl, rfl, rfl, rfl, rfl, rfl⟩ ?_
      rintro _ e_55 _ ⟨j, sa, sc, s_, hj, hb, hR, he_56, he_57, he_58, he_59, he_60, he_61, he_62, he_63, rfl, rfl⟩
      refine JC.seq ?_
      refine JC.region ?_
      refine JL.pure rfl (PO.lss he_63 he_62) ?_
      refine JL.nil ?_
      refine JQ.seq ?_
      refine JC.seq ?_
      by_cases h_64 : ((j : Nat) : Int) < ((y_51.length : Nat) : Int)
      · skip
        have hlt : j < y_51.length := by omega
        have hsc := sumC_step hlt
        refine JC.condT (congrArg Value.bool (decide_eq_true h_64)) ?_
        refine JC.skip ?_
        refine JQ.seq ?_
        refine JC.seq ?_
        refine JC.block ?_
        refine JC.seq ?_
        refine JC.region ?_
        refine JL.facts fun hst => ?_
        obtain ⟨hr_65, hr_65b, -⟩ := row_some 1 rfl (by omega) hst
        refine JL.pure rfl (PO.indexAddrV (i := j) Tryz.underlying82 Tryz.sizeOf49 hr_65 hr_65b he_61 he_63 (by omega)) ?_
        refine JL.ld rfl (LO.loadR1 1 (v := .slice ((y_51.getD j r0).x.a0) ((y_51.getD j r0).t.cells.length) ((y_51.getD j r0).x.c0)) rfl rfl Tryz.isAgg49 (flat_at encR_len r0 y_51 j 0 (by omega) (by decide))) ?_
        refine JL.pure rfl (PO.assign (v := .slice ((y_51.getD j r0).x.a0) ((y_51.getD j r0).t.cells.length) ((y_51.getD j r0).x.c0)) rfl) ?_
        refine JL.nil ?_
        refine JQ.seq ?_
        refine JC.seq ?_
        refine JC.ghost (L' := [Res.rows ((y_51.take j).flatMap rdsR), Res.rows (rdsR (y_51.getD j r0)), Res.rows ((y_51.drop (j + 1)).flatMap rdsR), rC sa sc s_, Res.row (.slice a_49 y_51.length c_50) 49 1 y_51.length (y_51.flatMap encR), bk b_45 60 [.int .i64 ((d.l.getD q o0).t.seq), .slice ((d.l.getD q o0).x.a0) ((d.l.getD q o0).t.cells.length) ((d.l.getD q o0).x.c0), .bool ((d.l.getD q o0).t.whole)], bk b_3 31 [.slice d.a d.l.length d.c, str d.jt, .int .i64 d.js]]) (fun w hw => hw.splitR 2 rfl (flatMap_at r0 hlt)) ?_
        refine JC.ghost (L' := [Res.row (.slice ((y_51.getD j r0).x.a0) ((y_51.getD j r0).t.cells.length) ((y_51.getD j r0).x.c0)) 48 2 (((y_51.getD j r0).t.cells).length) (((y_51.getD j r0).t.cells).flatMap encC), Res.rows ((y_51.take j).flatMap rdsR), Res.rows ((y_51.drop (j + 1)).flatMap rdsR), rC sa sc s_, Res.row (.slice a_49 y_51.length c_50) 49 1 y_51.length (y_51.flatMap encR), bk b_45 60 [.int .i64 ((d.l.getD q o0).t.seq), .slice ((d.l.getD q o0).x.a0) ((d.l.getD q o0).t.cells.length) ((d.l.getD q o0).x.c0), .bool ((d.l.getD q o0).t.whole)], bk b_3 31 [.slice d.a d.l.length d.c, str d.jt, .int .i64 d.js]]) (fun w hw => hw.openR 1 rfl) ?_
        refine JC.region ?_
        refine JL.pure rfl (PO.move (v := .slice ((y_51.getD j r0).x.a0) ((y_51.getD j r0).t.cells.length) ((y_51.getD j r0).x.c0)) rfl) ?_
        refine JL.pure rfl (PO.lenV Tryz.underlying49 rfl) ?_
        refine JL.pure rfl (PO.move (v := .int .i64 0) rfl) ?_
        refine JL.nil ?_
        refine JQ.seq ?_
        refine JC.block ?_
        refine JC.ghost (L' := [rC sa sc s_, Res.row (.slice ((y_51.getD j r0).x.a0) ((y_51.getD j r0).t.cells.length) ((y_51.getD j r0).x.c0)) 48 2 (((y_51.getD j r0).t.cells).length) (((y_51.getD j r0).t.cells).flatMap encC), Res.rows ((y_51.take j).flatMap rdsR), Res.rows ((y_51.drop (j + 1)).flatMap rdsR), Res.row (.slice a_49 y_51.length c_50) 49 1 y_51.length (y_51.flatMap encR), bk b_45 60 [.int .i64 ((d.l.getD q o0).t.seq), .slice ((d.l.getD q o0).x.a0) ((d.l.getD q o0).t.cells.length) ((d.l.getD q o0).x.c0), .bool ((d.l.getD q o0).t.whole)], bk b_3 31 [.slice d.a d.l.length d.c, str d.jt, .int .i64 d.js]]) (fun w hw => hw.perm (pick_perm [3] (A := [rC sa sc s_]) (F := [Res.row (.slice ((y_51.getD j r0).x.a0) ((y_51.getD j r0).t.cells.length) ((y_51.getD j r0).x.c0)) 48 2 (((y_51.getD j r0).t.cells).length) (((y_51.getD j r0).t.cells).flatMap encC), Res.rows ((y_51.take j).flatMap rdsR), Res.rows ((y_51.drop (j + 1)).flatMap rdsR), Res.row (.slice a_49 y_51.length c_50) 49 1 y_51.length (y_51.flatMap encR), bk b_45 60 [.int .i64 ((d.l.getD q o0).t.seq), .slice ((d.l.getD q o0).x.a0) ((d.l.getD q o0).t.cells.length) ((d.l.getD q o0).x.c0), .bool ((d.l.getD q o0).t.whole)], bk b_3 31 [.slice d.a d.l.length d.c, str d.jt, .int .i64 d.js]]) rfl).symm) ?_
        refine JC.loop (fun k_ e_ L_ => ∃ i : Nat, ∃ qa : Option Addr, ∃ qc : Nat, ∃ q_ : List Cell, (i ≤ (y_51.getD j r0).t.cells.length) ∧ (q_.length + ((y_51.getD j r0).t.cells.length - i) ≤ s_.length + (y_51.getD j r0).t.cells.length) ∧ (applyR q_ ((y_51.getD j r0).t.cells.drop i) = applyR s_ (y_51.getD j r0).t.cells) ∧ e_ 2 = .slice none 0 0 ∧ e_ 3 = .int .i64 0 ∧ e_ 4 = .pointer (some ⟨b_45, 0, none⟩) ∧ e_ 5 = .slice a_49 y_51.length c_50 ∧ e_ 7 = .slice qa q_.length qc ∧ e_ 34 = .slice a_49 y_51.length c_50 ∧ e_ 35 = .int .i64 ((y_51.length : Nat) : Int) ∧ e_ 36 = .int .i64 ((j : Nat) : Int) ∧ e_ 40 = .slice ((y_51.getD j r0).x.a0) ((y_51.getD j r0).t.cells.length) ((y_51.getD j r0).x.c0) ∧ e_ 41 = .int .i64 (((y_51.getD j r0).t.cells.length : Nat) : Int) ∧ e_ 42 = .int .i64 ((i : Nat) : Int) ∧ L_ = [rC qa qc q_, Res.row (.slice ((y_51.getD j r0).x.a0) ((y_51.getD j r0).t.cells.length) ((y_51.getD j r0).x.c0)) 48 2 (((y_51.getD j r0).t.cells).length) (((y_51.getD j r0).t.cells).flatMap encC), Res.rows ((y_51.take j).flatMap rdsR), Res.rows ((y_51.drop (j + 1)).flatMap rdsR), Res.row (.slice a_49 y_51.length c_50) 49 1 y_51.length (y_51.flatMap encR), bk b_45 60 [.int .i64 ((d.l.getD q o0).t.seq), .slice ((d.l.getD q o0).x.a0) ((d.l.getD q o0).t.cells.length) ((d.l.getD q o0).x.c0), .bool ((d.l.getD q o0).t.whole)], bk b_3 31 [.slice d.a d.l.length d.c, str d.jt, .int .i64 d.js]] ∧ k_ = (y_51.getD j r0).t.cells.length - i) _ ⟨0, sa, sc, s_, by omega, by omega, rfl, he_56, he_57, he_58, he_59, he_60, he_61, he_62, he_63, rfl, rfl, rfl, rfl, rfl⟩ ?_
        rintro _ e_66 _ ⟨i, qa, qc, q_, hi, hb2, hR2, he_67, he_68, he_69, he_70, he_71, he_72, he_73, he_74, he_75, he_76, he_77, rfl, rfl⟩
        refine JC.seq ?_
        refine JC.region ?_
        refine JL.pure rfl (PO.lss he_77 he_76) ?_
        refine JL.nil ?_
        refine JQ.seq ?_
        refine JC.seq ?_
        by_cases h_78 : ((i : Nat) : Int) < (((y_51.getD j r0).t.cells.length : Nat) : Int)
        · skip
          have hlt2 : i < (y_51.getD j r0).t.cells.length := by omega
          have hkl := (rec_key hys hlt hlt2).1
          have hpl := putKey_one q_ ((y_51.getD j r0).t.cells.getD i c0).1 ((y_51.getD j r0).t.cells.getD i c0).2
          refine JC.condT (congrArg Value.bool (decide_eq_true h_78)) ?_
          refine JC.skip ?_
          refine JQ.seq ?_
          refine JC.seq ?_
          refine JC.block ?_
          refine JC.seq ?_
          refine JC.region ?_
          refine JL.facts fun hst => ?_
          obtain ⟨hr_79, hr_79b, -⟩ := row_some 1 rfl (by omega) hst
          refine JL.pure rfl (PO.indexAddrV (i := i) Tryz.underlying49 Tryz.sizeOf48 hr_79 hr_79b he_75 he_77 (by omega)) ?_
          refine JL.ld rfl (LO.loadRK 1 (vs := [str ((((y_51.getD j r0).t.cells).getD i c0).1), str ((((y_51.getD j r0).t.cells).getD i c0).2)]) rfl rfl Tryz.isAgg48 Tryz.sizeOf48 (atC (by omega)) rfl (by decide)) ?_
          refine JL.op rfl (JO.alloc (z := .agg #[str [], str []]) (cs := [str [], str []]) Tryz.zeroValue48 rfl) ?_
          rintro _ _ ⟨b_80, rfl, rfl⟩
          refine JL.op rfl (JO.store 0 (vs := [str ((((y_51.getD j r0).t.cells).getD i c0).1), str ((((y_51.getD j r0).t.cells).getD i c0).2)]) (cs' := [str ((((y_51.getD j r0).t.cells).getD i c0).1), str ((((y_51.getD j r0).t.cells).getD i c0).2)]) rfl rfl rfl rfl Tryz.sizeOf48 rfl rfl (Nat.le_of_ble_eq_true rfl) rfl) ?_
          rintro _ _ rfl
          refine JL.nil ?_
          refine JQ.seq ?_
          refine JC.region ?_
          refine JL.pure rfl (PO.move (v := .slice qa q_.length qc) he_71) ?_
          refine JL.pure rfl (PO.fieldAddr fo48_0 rfl) ?_
          refine JL.ld rfl (LO.load1 0 (v := str ((((y_51.getD j r0).t.cells).getD i c0).1)) rfl rfl Tryz.isAgg9 rfl) ?_
          refine JL.pure rfl (PO.fieldAddr fo48_1 rfl) ?_
          refine JL.ld rfl (LO.load1 0 (v := str ((((y_51.getD j r0).t.cells).getD i c0).2)) rfl rfl Tryz.isAgg9 rfl) ?_
          refine JL.op rfl (JO.call [1] Tryz.call86 rfl (C_put qa qc q_ ((((y_51.getD j r0).t.cells).getD i c0).1) ((((y_51.getD j r0).t.cells).getD i c0).2) (by omega) (by omega)) rfl (fun _ _ => trivial)) ?_
          rintro _ _ ⟨_, ⟨a_81, c_82, rfl, rfl⟩, rfl⟩
          refine JL.pure rfl (PO.assign (v := .slice a_81 ((putKey q_ ((((y_51.getD j r0).t.cells).getD i c0).1) ((((y_51.getD j r0).t.cells).getD i c0).2)).length) c_82) rfl) ?_
          refine JL.nil ?_
          refine JQ.blockN ?_
          refine JQ.seq ?_
          refine JC.region ?_
          refine JL.pure rfl (PO.add (c := ((i + 1 : Nat) : Int)) he_77 rfl (wr (by omega))) ?_
          refine JL.pure rfl (PO.move (v := .int .i64 ((i + 1 : Nat) : Int)) rfl) ?_
          refine JL.nil ?_
          refine JQ.pick [0, 1, 1, 1, 1, 1, 1] (A := [rC a_81 c_82 (putKey q_ ((((y_51.getD j r0).t.cells).getD i c0).1) ((((y_51.getD j r0).t.cells).getD i c0).2)), Res.row (.slice ((y_51.getD j r0).x.a0) ((y_51.getD j r0).t.cells.length) ((y_51.getD j r0).x.c0)) 48 2 (((y_51.getD j r0).t.cells).length) (((y_51.getD j r0).t.cells).flatMap encC), Res.rows ((y_51.take j).flatMap rdsR), Res.rows ((y_51.drop (j + 1)).flatMap rdsR), Res.row (.slice a_49 y_51.length c_50) 49 1 y_51.length (y_51.flatMap encR), bk b_45 60 [.int .i64 ((d.l.getD q o0).t.seq), .slice ((d.l.getD q o0).x.a0) ((d.l.getD q o0).t.cells.length) ((d.l.getD q o0).x.c0), .bool ((d.l.getD q o0).t.whole)], bk b_3 31 [.slice d.a d.l.length d.c, str d.jt, .int .i64 d.js]]) rfl ?_
          refine JQ.again ((y_51.getD j r0).t.cells.length - (i + 1)) (by omega) ⟨i + 1, a_81, c_82, (putKey q_ ((((y_51.getD j r0).t.cells).getD i c0).1) ((((y_51.getD j r0).t.cells).getD i c0).2)), by omega, by omega, (by rw [applyR_step hlt2] at hR2; exact hR2), he_67, he_68, he_69, he_70, rfl, he_72, he_73, he_74, he_75, he_76, rfl, rfl, rfl⟩
        · skip
          refine JC.condF (congrArg Value.bool (decide_eq_false h_78)) ?_
          refine JC.exit ?_
          refine JQ.thenExit ?_
          refine JQ.thenExit ?_
          refine JQ.blockE ?_
          refine JQ.blockN ?_
          refine JQ.seq ?_
          refine JC.region ?_
          refine JL.pure rfl (PO.add (c := ((j + 1 : Nat) : Int)) he_74 rfl (wr (by omega))) ?_
          refine JL.pure rfl (PO.move (v := .int .i64 ((j + 1 : Nat) : Int)) rfl) ?_
          refine JL.nil ?_
          refine JQ.ghost (L' := [Res.rows (rdsR (y_51.getD j r0)), rC qa qc q_, Res.rows ((y_51.take j).flatMap rdsR), Res.rows ((y_51.drop (j + 1)).flatMap rdsR), Res.row (.slice a_49 y_51.length c_50) 49 1 y_51.length (y_51.flatMap encR), bk b_45 60 [.int .i64 ((d.l.getD q o0).t.seq), .slice ((d.l.getD q o0).x.a0) ((d.l.getD q o0).t.cells.length) ((d.l.getD q o0).x.c0), .bool ((d.l.getD q o0).t.whole)], bk b_3 31 [.slice d.a d.l.length d.c, str d.jt, .int .i64 d.js]]) (fun w hw => hw.closeR (A := rdsR (y_51.getD j r0)) [1] rfl) ?_
          refine JQ.ghost (L' := [Res.rows (y_51.flatMap rdsR), rC qa qc q_, Res.row (.slice a_49 y_51.length c_50) 49 1 y_51.length (y_51.flatMap encR), bk b_45 60 [.int .i64 ((d.l.getD q o0).t.seq), .slice ((d.l.getD q o0).x.a0) ((d.l.getD q o0).t.cells.length) ((d.l.getD q o0).x.c0), .bool ((d.l.getD q o0).t.whole)], bk b_3 31 [.slice d.a d.l.length d.c, str d.jt, .int .i64 d.js]]) (fun w hw => hw.joinR [2, 0, 1] rfl (flatMap_at r0 hlt)) ?_
          refine JQ.pick [1, 1, 0, 0, 0] (A := [rC qa qc q_, Res.row (.slice a_49 y_51.length c_50) 49 1 y_51.length (y_51.flatMap encR), Res.rows (y_51.flatMap rdsR), bk b_45 60 [.int .i64 ((d.l.getD q o0).t.seq), .slice ((d.l.getD q o0).x.a0) ((d.l.getD q o0).t.cells.length) ((d.l.getD q o0).x.c0), .bool ((d.l.getD q o0).t.whole)], bk b_3 31 [.slice d.a d.l.length d.c, str d.jt, .int .i64 d.js]]) rfl ?_
          refine JQ.again (y_51.length - (j + 1)) (by omega) ⟨j + 1, qa, qc, q_, by omega, by omega, (by rw [applyAll_step hlt] at hR; rw [show (y_51.getD j r0).t.cells.drop i = [] from List.drop_of_length_le (by omega)] at hR2; rw [← hR2] at hR; exact hR), he_67, he_68, he_69, he_70, he_71, he_72, he_73, rfl, rfl, rfl⟩
      · skip
        refine JC.condF (congrArg Value.bool (decide_eq_false h_64)) ?_
        refine JC.exit ?_
        refine JQ.thenExit ?_
        refine JQ.thenExit ?_
        refine JQ.blockE ?_
        refine JQ.seq ?_
        refine JC.seq ?_
        refine JC.regionA [rC sa sc s_, Res.row (.slice a_49 y_51.length c_50) 49 1 y_51.length (y_51.flatMap encR), Res.rows (y_51.flatMap rdsR), bk b_45 60 [.int .i64 ((d.l.getD q o0).t.seq), .slice ((d.l.getD q o0).x.a0) ((d.l.getD q o0).t.cells.length) ((d.l.getD q o0).x.c0), .bool ((d.l.getD q o0).t.whole)], bk b_3 31 [.slice d.a d.l.length d.c, str d.jt, .int .i64 d.js]] 0 mixed (by simp) ?_
        refine JA.takeP 0 rfl (by kernel_rfl) (NP.th NP.body) (by kernel_rfl) (by kernel_rfl) rfl (PO.move (v := .slice sa s_.length sc) he_60) ?_
        refine JA.takeP 1 rfl (by kernel_rfl) (NP.th NP.body) (by kernel_rfl) (by kernel_rfl) rfl (PO.fieldAddr fo60_0 he_58) ?_
        refine JA.takeP 3 rfl (by kernel_rfl) (NP.th NP.body) (by kernel_rfl) (by kernel_rfl) rfl (PO.move (v := .slice a_49 y_51.length c_50) he_59) ?_
        refine JA.takeP 4 rfl (by kernel_rfl) (NP.th NP.body) (by kernel_rfl) (by kernel_rfl) rfl (PO.lenV Tryz.underlying82 rfl) ?_
        refine JA.takeP 6 rfl (by kernel_rfl) (NP.th NP.body) (by kernel_rfl) (by kernel_rfl) rfl (PO.assign (v := .slice sa s_.length sc) rfl) ?_
        refine JA.one (i := 2) (by kernel_rfl) ?_
        refine JX.late rfl rfl (by decide) (by kernel_rfl) (JO.ofLO (LO.load1 3 (v := .int .i64 ((d.l.getD q o0).t.seq)) rfl rfl Tryz.isAgg3 rfl)) ?_
        rintro _ _ ⟨rfl, rfl⟩
        refine JA.takeP 5 rfl (by kernel_rfl) (NP.th NP.body) (by kernel_rfl) (by kernel_rfl) rfl (PO.add (c := ((d.l.getD q o0).t.seq) + ((y_51.length : Nat) : Int)) rfl rfl (wr (by omega))) ?_
        refine JA.takeP 7 rfl (by kernel_rfl) (NP.th NP.body) (by kernel_rfl) (by kernel_rfl) rfl (PO.assign (v := .int .i64 (((d.l.getD q o0).t.seq) + ((y_51.length : Nat) : Int))) rfl) ?_
        refine JA.done (by kernel_rfl) ?_
        refine JQ.seq ?_
        refine JC.ret ?_
        refine Done.two (.inl rfl) rfl (RV.tmp (v := .slice sa s_.length sc) rfl) (RV.tmp (v := .int .i64 (((d.l.getD q o0).t.seq) + ((y_51.length : Nat) : Int))) rfl) (List.sublist_append_left [rC sa sc s_] [Res.row (.slice a_49 y_51.length c_50) 49 1 y_51.length (y_51.flatMap encR), Res.rows (y_51.flatMap rdsR), bk b_45 60 [.int .i64 ((d.l.getD q o0).t.seq), .slice ((d.l.getD q o0).x.a0) ((d.l.getD q o0).t.cells.length) ((d.l.getD q o0).x.c0), .bool ((d.l.getD q o0).t.whole)], bk b_3 31 [.slice d.a d.l.length d.c, str d.jt, .int .i64 d.js]]) ?_
        have hf : s_ = applyAll (d.l.getD q o0).t.cells (y_51.map cellsR) := by rw [show (y_51.map cellsR).drop j = [] from List.drop_of_length_le (by rw [List.length_map]; omega)] at hR; exact hR
        have he := recov_eq h_4 hbc hmost hys hf (List.length_map _)
        exact ⟨sa, sc, by rw [he], by rw [he]⟩
  · skip
    refine JC.condT (congrArg Value.bool (congrArg Bool.not h_4)) ?_
    refine JC.seq ?_
    refine JC.region ?_
    refine JL.pure rfl (PO.assign (v := .slice none 0 0) rfl) ?_
    refine JL.pure rfl (PO.assign (v := .int .i64 0) rfl) ?_
    refine JL.nil ?_
    refine JQ.seq ?_
    refine JC.ret ?_
    refine JQ.thenRet ?_
    refine JQ.nilRow 48 2 ?_
    refine Done.two (.inl rfl) rfl (RV.tmp (v := .slice none 0 0) rfl) (RV.tmp (v := .int .i64 0) rfl) (List.sublist_append_left [Res.row (.slice none 0 0) 48 2 0 (([] : List Cell).flatMap encC)] [bk b_3 31 [.slice d.a d.l.length d.c, str d.jt, .int .i64 d.js]]) ?_
    have he := recov_not h_4
    exact ⟨none, 0, by rw [he] <;> rfl, by rw [he] <;> rfl⟩

set_option maxRecDepth 4000 in
set_option maxHeartbeats 1000000 in
theorem Y_sRecov (d : DX) (hz : d.dat.okz) (hl : d.dat.lim 1000000000) :
    Ct Tryz.prog 43 [.agg #[.slice d.a d.l.length d.c, str d.jt, .int .i64 d.js]] [] (fun w => SeesA w (rdsD d)) (fun v A' => ∃ a c, v = .tuple #[.slice a d.dat.recov.1.length c, .int .i64 d.dat.recov.2] ∧ A' = [.row (.slice a d.dat.recov.1.length c) 48 2 d.dat.recov.1.length (d.dat.recov.1.flatMap encC)]) := by
  refine Ct.intro Tryz.func43 rfl Tryz.ntmps43 (Nat.le_of_ble_eq_true rfl) fun w0 hpre => ?_
  have hs_1 : Sees w0 (.slice d.a d.l.length d.c) 3 d.l.length (d.l.flatMap encO) := (hpre).head
  have hi_2 : SeesA w0 (d.l.flatMap rdsO) := (hpre).tail
  have hjt := hz.k2
  have hdl : d.l.length ≤ 1000000000 := by have := hl.l0; simpa only [DX.dat, List.length_map] using this
  refine JC.seq ?_
  refine JC.region ?_
  refine JL.op rfl (JO.box (cs := [.slice d.a d.l.length d.c, str d.jt, .int .i64 d.js]) rfl rfl) ?_
  rintro _ _ ⟨b_3, rfl, rfl⟩
  refine JL.pure rfl (PO.assign (v := .slice none 0 0) rfl) ?_
  refine JL.pure rfl (PO.assign (v := .int .i64 0) rfl) ?_
  refine JL.nil ?_
  refine JQ.seq ?_
  refine JC.seq ?_
  refine JC.seq ?_
  refine JC.region ?_
  refine JL.ld rfl (LO.loadK 0 (vs := [.slice d.a d.l.length d.c, str d.jt, .int .i64 d.js]) rfl rfl Tryz.isAgg31 Tryz.sizeOf31 rfl rfl) ?_
  refine JL.op rfl (JO.call [] Tryz.call42 rfl (Y_specDiskOk d hz (by omega)) rfl (fun w hw => hw.seeOutA hpre nMA)) ?_
  rintro _ _ ⟨_, ⟨rfl, rfl⟩, rfl⟩
  refine JL.pure rfl (PO.not rfl) ?_
  refine JL.nil ?_
  refine JQ.seq ?_
  rcases Bool.eq_false_or_eq_true (diskOk d.dat) with h_4 | h_4
  · skip
    refine JC.condF (congrArg Value.bool (congrArg Bool.not h_4)) ?_
    refine JC.skip ?_
    refine JQ.seq ?_
    refine JC.seq ?_
    obtain ⟨q, hq, hql⟩ := diskOk_best h_4
    have hql : q < d.l.length := by simpa only [DX.dat, List.length_map] using hql
    have hjr := diskOk_jour h_4
    have hjr2 : ((d.jt.length : Nat) : Int) ≤ 20000 ∧ 0 ≤ d.js ∧ d.js ≤ ((d.jt.length : Nat) : Int) := by have h_ : jourOk d.jt d.js = true := hjr; simpa only [jourOk, within, Bool.and_eq_true, decide_eq_true_eq, and_assoc] using h_
    have hmost : (d.l.getD q o0).t.seq = mostOf d.dat := by rw [mostOf, hq, Int.toNat_natCast]; exact congrArg SD.seq getD_map'.symm
    have hmr := most_range h_4
    have hl2 := disk_two h_4
    have hbc : (d.l.getD q o0).t.cells = (d.dat.slots.getD (bestD d.dat).toNat o0.t).cells := by rw [hq, Int.toNat_natCast]; exact congrArg SD.cells getD_map'.symm
    have hsl : (d.l.getD q o0).t.cells.length ≤ 900 := by rw [hbc]; exact storeOk_len (best_ok h_4).2.2.2
    have hrc := recsOf_cells d.jt ((d.l.getD q o0).t.seq + 1)
    have hrle := recsOf_le d.jt ((d.l.getD q o0).t.seq + 1)
    refine JC.regionA [bk b_3 31 [.slice d.a d.l.length d.c, str d.jt, .int .i64 d.js]] 7 mixed (by simp) ?_
    refine JA.takeP 0 rfl (by kernel_rfl) (NP.th NP.body) (by kernel_rfl) (by kernel_rfl) rfl (PO.fieldAddr fo31_0 rfl) ?_
    refine JA.take 1 rfl (by kernel_rfl) (NP.th NP.body) (by kernel_rfl) (by kernel_rfl) (by kernel_rfl) rfl (LO.load1 0 (v := .slice d.a d.l.length d.c) rfl rfl Tryz.isAgg28 rfl) ?_
    refine JA.take 2 rfl (by kernel_rfl) (NP.th NP.body) (by kernel_rfl) (by kernel_rfl) (by kernel_rfl) rfl (LO.loadK 0 (vs := [.slice d.a d.l.length d.c, str d.jt, .int .i64 d.js]) rfl rfl Tryz.isAgg31 Tryz.sizeOf31 rfl rfl) ?_
    refine JA.two (i := 3) (j := 6) (by kernel_rfl) ?_ ?_
    · skip
      refine JX.op rfl rfl (JO.call [] Tryz.call49 rfl (Y_sBestN d hz (by omega) q hq) rfl (fun w hw => hw.seeOutA hpre nMA)) ?_
      rintro _ _ ⟨_, ⟨rfl, rfl⟩, rfl⟩
      refine ⟨by simp, ?_⟩
      obtain ⟨hr_6, hr_6b, -⟩ := sees_some hs_1 (by omega)
      refine JA.takeP 4 rfl (by kernel_rfl) (NP.th NP.body) (by kernel_rfl) (by kernel_rfl) rfl (PO.indexAddrV (i := q) Tryz.underlying28 Tryz.sizeOf60 hr_6 hr_6b rfl rfl (by omega)) ?_
      have hi_7 := SeesA.elem hi_2 o0 (show q < d.l.length by omega)
      have hs_8 := seesO hi_7
      refine JA.take 5 rfl (by kernel_rfl) (NP.th NP.body) (by kernel_rfl) (by kernel_rfl) (by kernel_rfl) rfl (LO.loadSK (vs := [.int .i64 ((d.l.getD q o0).t.seq), .slice ((d.l.getD q o0).x.a0) ((d.l.getD q o0).t.cells.length) ((d.l.getD q o0).x.c0), .bool ((d.l.getD q o0).t.whole)]) hs_1 (fun _ _ => List.not_mem_nil) rfl Tryz.isAgg60 Tryz.sizeOf60 (flat_take encO_len o0 d.l q (by omega)) rfl (by decide)) ?_
      refine JA.one (i := 6) (by kernel_rfl) ?_
      refine JX.op rfl rfl (JO.alloc (z := .agg #[.int .i64 0, .slice none 0 0, .bool false]) (cs := [.int .i64 0, .slice none 0 0, .bool false]) Tryz.zeroValue60 rfl) ?_
      rintro _ _ ⟨b_10, rfl, rfl⟩
      refine ⟨by simp, ?_⟩
      refine JA.one (i := 7) (by kernel_rfl) ?_
      refine JX.last rfl rfl (by decide) (by kernel_rfl) (JO.store 0 (vs := [.int .i64 ((d.l.getD q o0).t.seq), .slice ((d.l.getD q o0).x.a0) ((d.l.getD q o0).t.cells.length) ((d.l.getD q o0).x.c0), .bool ((d.l.getD q o0).t.whole)]) (cs' := [.int .i64 ((d.l.getD q o0).t.seq), .slice ((d.l.getD q o0).x.a0) ((d.l.getD q o0).t.cells.length) ((d.l.getD q o0).x.c0), .bool ((d.l.getD q o0).t.whole)]) rfl rfl rfl rfl Tryz.sizeOf60 rfl rfl (Nat.le_of_ble_eq_true rfl) rfl) ?_
      rintro _ _ rfl
      refine JQ.seq ?_
      refine JC.seq ?_
      refine JC.region ?_
      refine JL.op rfl (JO.buildSlice (ps := []) (cur := #[]) Tryz.underlying49 Tryz.sizeOf48 Tryz.zeroValue48 rfl (by kernel_rfl) (by decide) (by decide)) ?_
      rintro _ _ ⟨a_11, rfl, rfl⟩
      refine JL.pure rfl (PO.fieldAddr fo60_1 rfl) ?_
      refine JL.ld rfl (LO.load1 1 (v := .slice ((d.l.getD q o0).x.a0) ((d.l.getD q o0).t.cells.length) ((d.l.getD q o0).x.c0)) rfl rfl Tryz.isAgg49 rfl) ?_
      refine JL.op rfl (JO.append' 0 (q := ((d.l.getD q o0).t.cells.length)) (news := ((d.l.getD q o0).t.cells).flatMap encC) (n' := ((d.l.getD q o0).t.cells).length) (cs' := ((d.l.getD q o0).t.cells).flatMap encC) rfl Tryz.underlying49 Tryz.underlying49 Tryz.typeInfo48 rfl (by' := 32) rfl rfl rfl rfl rfl (fun w hw => Src.sees (hw.seeOut_ hs_8 (fun _ _ => List.not_mem_nil)) (oneC _)) (by (try simp only [List.length_append, List.length_cons, List.length_nil, List.length_take, List.length_drop]); omega) (by (try simp only [List.length_append, List.length_cons, List.length_nil, List.length_take, List.length_drop]); omega) (by (try simp only [List.length_take, List.length_drop]); first | rfl | omega) rfl) ?_
      rintro _ _ ⟨a_12, c_13, rfl, rfl⟩
      refine JL.pure rfl (PO.assign (v := .slice a_12 (((d.l.getD q o0).t.cells).length) c_13) rfl) ?_
      refine JL.nil ?_
      refine JQ.seq ?_
      refine JC.seq ?_
      refine JC.region ?_
      refine JL.pure rfl (PO.fieldAddr fo31_1 rfl) ?_
      refine JL.pure rfl (PO.fieldAddr fo29_0 rfl) ?_
      refine JL.ld rfl (LO.load1 2 (v := str d.jt) rfl rfl Tryz.isAgg9 rfl) ?_
      refine JL.pure rfl (PO.fieldAddr fo60_0 rfl) ?_
      refine JL.ld rfl (LO.load1 1 (v := .int .i64 ((d.l.getD q o0).t.seq)) rfl rfl Tryz.isAgg3 rfl) ?_
      refine JL.pure rfl (PO.add (c := ((d.l.getD q o0).t.seq) + 1) rfl rfl (wr (by omega))) ?_
      refine JL.op rfl (JO.call [] Tryz.call69 rfl (Y_sRecs d.jt (((d.l.getD q o0).t.seq) + 1) (by omega)) rfl (fun _ _ => trivial)) ?_
      rintro _ _ ⟨_, ⟨a_14, c_15, y_16, hy_17, rfl, rfl⟩, rfl⟩
      refine JL.pure rfl (PO.move (v := .tuple #[.slice a_14 y_16.length c_15, .int .i64 (((recsOf d.jt (((d.l.getD q o0).t.seq) + 1)).2 : Nat) : Int)]) rfl) ?_
      refine JL.pure rfl (PO.extract (v := .slice a_14 y_16.length c_15) rfl rfl) ?_
      refine JL.pure rfl (PO.extract (v := .int .i64 (((recsOf d.jt (((d.l.getD q o0).t.seq) + 1)).2 : Nat) : Int)) rfl rfl) ?_
      refine JL.pure rfl (PO.assign (v := .slice a_14 y_16.length c_15) rfl) ?_
      refine JL.pure rfl (PO.assign (v := .int .i64 (((recsOf d.jt (((d.l.getD q o0).t.seq) + 1)).2 : Nat) : Int)) rfl) ?_
      refine JL.nil ?_
      refine JQ.seq ?_
      refine JC.seq ?_
      refine JC.seq ?_
      have hys : y_16.map cellsR = (recsOf d.jt ((d.l.getD q o0).t.seq + 1)).1 := hy_17
      have hyc : sumC (y_16.map cellsR) ≤ 20000 := by rw [hys]; omega
      have hyn : y_16.length ≤ 20000 := by have h_ := congrArg List.length hys; rw [List.length_map] at h_; have h2_ := recsOf_count d.jt ((d.l.getD q o0).t.seq + 1); omega
      refine JC.region ?_
      refine JL.pure rfl (PO.assign (v := .int .i64 0) rfl) ?_
      refine JL.nil ?_
      refine JQ.seq ?_
      refine JC.block ?_
      refine JC.ghost (L' := [Res.row (.slice a_14 y_16.length c_15) 49 1 y_16.length (y_16.flatMap encR), Res.rows (y_16.flatMap rdsR), rC a_12 c_13 ((d.l.getD q o0).t.cells), bk b_10 60 [.int .i64 ((d.l.getD q o0).t.seq), .slice ((d.l.getD q o0).x.a0) ((d.l.getD q o0).t.cells.length) ((d.l.getD q o0).x.c0), .bool ((d.l.getD q o0).t.whole)], bk b_3 31 [.slice d.a d.l.length d.c, str d.jt, .int .i64 d.js]]) (fun w hw => hw.headR (r := ⟨.slice a_14 y_16.length c_15, 49, 1, y_16.length, y_16.flatMap encR⟩) (A := y_16.flatMap rdsR) 0 rfl) ?_
      refine JC.ghost (L' := [rC a_12 c_13 ((d.l.getD q o0).t.cells), Res.row (.slice a_14 y_16.length c_15) 49 1 y_16.length (y_16.flatMap encR), Res.rows (y_16.flatMap rdsR), bk b_10 60 [.int .i64 ((d.l.getD q o0).t.seq), .slice ((d.l.getD q o0).x.a0) ((d.l.getD q o0).t.cells.length) ((d.l.getD q o0).x.c0), .bool ((d.l.getD q o0).t.whole)], bk b_3 31 [.slice d.a d.l.length d.c, str d.jt, .int .i64 d.js]]) (fun w hw => hw.perm (pick_perm [2] (A := [rC a_12 c_13 ((d.l.getD q o0).t.cells)]) (F := [Res.row (.slice a_14 y_16.length c_15) 49 1 y_16.length (y_16.flatMap encR), Res.rows (y_16.flatMap rdsR), bk b_10 60 [.int .i64 ((d.l.getD q o0).t.seq), .slice ((d.l.getD q o0).x.a0) ((d.l.getD q o0).t.cells.length) ((d.l.getD q o0).x.c0), .bool ((d.l.getD q o0).t.whole)], bk b_3 31 [.slice d.a d.l.length d.c, str d.jt, .int .i64 d.js]]) rfl).symm) ?_
      refine JC.loop (fun k_ e_ L_ => ∃ j : Nat, ∃ sa : Option Addr, ∃ sc : Nat, ∃ s_ : List Cell, (j ≤ y_16.length) ∧ (s_.length + sumC ((y_16.map cellsR).drop j) ≤ 30000) ∧ (applyAll s_ ((y_16.map cellsR).drop j) = applyAll (d.l.getD q o0).t.cells (y_16.map cellsR)) ∧ e_ 2 = .slice none 0 0 ∧ e_ 3 = .int .i64 0 ∧ e_ 4 = .pointer (some ⟨b_10, 0, none⟩) ∧ e_ 5 = .slice sa s_.length sc ∧ e_ 6 = .slice a_14 y_16.length c_15 ∧ e_ 8 = .int .i64 ((j : Nat) : Int) ∧ L_ = [rC sa sc s_, Res.row (.slice a_14 y_16.length c_15) 49 1 y_16.length (y_16.flatMap encR), Res.rows (y_16.flatMap rdsR), bk b_10 60 [.int .i64 ((d.l.getD q o0).t.seq), .slice ((d.l.getD q o0).x.a0) ((d.l.getD q o0).t.cells.length) ((d.l.getD q o0).x.c0), .bool ((d.l.getD q o0).t.whole)], bk b_3 31 [.slice d.a d.l.length d.c, str d.jt, .int .i64 d.js]] ∧ k_ = y_16.length - j) _ ⟨0, a_12, c_13, (d.l.getD q o0).t.cells, by omega, (by rw [List.drop_zero]; omega), rfl, rfl, rfl, rfl, rfl, rfl, rfl, rfl, rfl⟩ ?_
      rintro _ e_18 _ ⟨j, sa, sc, s_, hj, hb, hR, he_19, he_20, he_21, he_22, he_23, he_24, rfl, rfl⟩
      refine JC.seq ?_
      refine JC.seq ?_
      refine JC.region ?_
      refine JL.pure rfl (PO.move (v := .int .i64 ((j : Nat) : Int)) he_24) ?_
      refine JL.pure rfl (PO.move (v := .slice a_14 y_16.length c_15) he_23) ?_
      refine JL.pure rfl (PO.lenV Tryz.underlying82 rfl) ?_
      refine JL.pure rfl (PO.lss rfl rfl) ?_
      refine JL.nil ?_
      refine JQ.seq ?_
      by_cases h_25 : ((j : Nat) : Int) < ((y_16.length : Nat) : Int)
      · skip
        have hlt : j < y_16.length := by omega
        have hsc := sumC_step hlt
        refine JC.condT (congrArg Value.bool (decide_eq_true h_25)) ?_
        refine JC.skip ?_
        refine JQ.seq ?_
        refine JC.seq ?_
        refine JC.block ?_
        refine JC.region ?_
        refine JL.pure rfl (PO.move (v := .slice sa s_.length sc) he_22) ?_
        refine JL.pure rfl (PO.move (v := .slice a_14 y_16.length c_15) he_23) ?_
        refine JL.pure rfl (PO.move (v := .int .i64 ((j : Nat) : Int)) he_24) ?_
        refine JL.facts fun hst => ?_
        obtain ⟨hr_26, hr_26b, -⟩ := row_some 1 rfl (by omega) hst
        refine JL.pure rfl (PO.indexAddrV (i := j) Tryz.underlying82 Tryz.sizeOf49 hr_26 hr_26b rfl rfl (by omega)) ?_
        refine JL.ld rfl (LO.loadR1 1 (v := .slice ((y_16.getD j r0).x.a0) ((y_16.getD j r0).t.cells.length) ((y_16.getD j r0).x.c0)) rfl rfl Tryz.isAgg49 (flat_at encR_len r0 y_16 j 0 (by omega) (by decide))) ?_
        refine JL.op rfl (JO.call [] Tryz.call96 rfl (Y_sApply sa (y_16.getD j r0).x.a0 sc ((y_16.getD j r0).x.c0) s_ ((y_16.getD j r0).t.cells) (by omega) (by omega) (fun i hi => (rec_key hys hlt hi).1)) rfl (fun w hw => ⟨hw.see (i := 0) rfl, (seesR ((hw.seeRows 2 rfl).elem r0 (by omega)))⟩)) ?_
        rintro _ _ ⟨_, ⟨a_27, c_28, rfl, rfl⟩, rfl⟩
        have hal_29 := applyR_len ((y_16.getD j r0).t.cells) s_
        refine JL.pure rfl (PO.assign (v := .slice a_27 ((applyR s_ ((y_16.getD j r0).t.cells)).length) c_28) rfl) ?_
        refine JL.nil ?_
        refine JQ.blockN ?_
        refine JQ.seq ?_
        refine JC.region ?_
        refine JL.pure rfl (PO.move (v := .int .i64 ((j : Nat) : Int)) he_24) ?_
        refine JL.pure rfl (PO.add (c := ((j + 1 : Nat) : Int)) rfl rfl (wr (by omega))) ?_
        refine JL.pure rfl (PO.assign (v := .int .i64 ((j + 1 : Nat) : Int)) rfl) ?_
        refine JL.nil ?_
        refine JQ.pick [0, 1, 1, 1, 1] (A := [rC a_27 c_28 (applyR s_ ((y_16.getD j r0).t.cells)), Res.row (.slice a_14 y_16.length c_15) 49 1 y_16.length (y_16.flatMap encR), Res.rows (y_16.flatMap rdsR), bk b_10 60 [.int .i64 ((d.l.getD q o0).t.seq), .slice ((d.l.getD q o0).x.a0) ((d.l.getD q o0).t.cells.length) ((d.l.getD q o0).x.c0), .bool ((d.l.getD q o0).t.whole)], bk b_3 31 [.slice d.a d.l.length d.c, str d.jt, .int .i64 d.js]]) rfl ?_
        refine JQ.again (y_16.length - (j + 1)) (by omega) ⟨j + 1, a_27, c_28, (applyR s_ ((y_16.getD j r0).t.cells)), by omega, by omega, (by rw [applyAll_step hlt] at hR; exact hR), he_19, he_20, he_21, rfl, he_23, rfl, rfl, rfl⟩
      · skip
        refine JC.condF (congrArg Value.bool (decide_eq_false h_25)) ?_
        refine JC.exit ?_
        refine JQ.thenExit ?_
        refine JQ.thenExit ?_
        refine JQ.blockE ?_
        refine JQ.seq ?_
        refine JC.seq ?_
        refine JC.regionA [rC sa sc s_, Res.row (.slice a_14 y_16.length c_15) 49 1 y_16.length (y_16.flatMap encR), Res.rows (y_16.flatMap rdsR), bk b_10 60 [.int .i64 ((d.l.getD q o0).t.seq), .slice ((d.l.getD q o0).x.a0) ((d.l.getD q o0).t.cells.length) ((d.l.getD q o0).x.c0), .bool ((d.l.getD q o0).t.whole)], bk b_3 31 [.slice d.a d.l.length d.c, str d.jt, .int .i64 d.js]] 0 mixed (by simp) ?_
        refine JA.takeP 0 rfl (by kernel_rfl) (NP.th NP.body) (by kernel_rfl) (by kernel_rfl) rfl (PO.move (v := .slice sa s_.length sc) he_22) ?_
        refine JA.takeP 1 rfl (by kernel_rfl) (NP.th NP.body) (by kernel_rfl) (by kernel_rfl) rfl (PO.fieldAddr fo60_0 he_21) ?_
        refine JA.takeP 3 rfl (by kernel_rfl) (NP.th NP.body) (by kernel_rfl) (by kernel_rfl) rfl (PO.move (v := .slice a_14 y_16.length c_15) he_23) ?_
        refine JA.takeP 4 rfl (by kernel_rfl) (NP.th NP.body) (by kernel_rfl) (by kernel_rfl) rfl (PO.lenV Tryz.underlying82 rfl) ?_
        refine JA.takeP 6 rfl (by kernel_rfl) (NP.th NP.body) (by kernel_rfl) (by kernel_rfl) rfl (PO.assign (v := .slice sa s_.length sc) rfl) ?_
        refine JA.one (i := 2) (by kernel_rfl) ?_
        refine JX.late rfl rfl (by decide) (by kernel_rfl) (JO.ofLO (LO.load1 3 (v := .int .i64 ((d.l.getD q o0).t.seq)) rfl rfl Tryz.isAgg3 rfl)) ?_
        rintro _ _ ⟨rfl, rfl⟩
        refine JA.takeP 5 rfl (by kernel_rfl) (NP.th NP.body) (by kernel_rfl) (by kernel_rfl) rfl (PO.add (c := ((d.l.getD q o0).t.seq) + ((y_16.length : Nat) : Int)) rfl rfl (wr (by omega))) ?_
        refine JA.takeP 7 rfl (by kernel_rfl) (NP.th NP.body) (by kernel_rfl) (by kernel_rfl) rfl (PO.assign (v := .int .i64 (((d.l.getD q o0).t.seq) + ((y_16.length : Nat) : Int))) rfl) ?_
        refine JA.done (by kernel_rfl) ?_
        refine JQ.seq ?_
        refine JC.ret ?_
        refine Done.two (.inl rfl) rfl (RV.tmp (v := .slice sa s_.length sc) rfl) (RV.tmp (v := .int .i64 (((d.l.getD q o0).t.seq) + ((y_16.length : Nat) : Int))) rfl) (List.sublist_append_left [rC sa sc s_] [Res.row (.slice a_14 y_16.length c_15) 49 1 y_16.length (y_16.flatMap encR), Res.rows (y_16.flatMap rdsR), bk b_10 60 [.int .i64 ((d.l.getD q o0).t.seq), .slice ((d.l.getD q o0).x.a0) ((d.l.getD q o0).t.cells.length) ((d.l.getD q o0).x.c0), .bool ((d.l.getD q o0).t.whole)], bk b_3 31 [.slice d.a d.l.length d.c, str d.jt, .int .i64 d.js]]) ?_
        have hf : s_ = applyAll (d.l.getD q o0).t.cells (y_16.map cellsR) := by rw [show (y_16.map cellsR).drop j = [] from List.drop_of_length_le (by rw [List.length_map]; omega)] at hR; exact hR
        have he := recov_eq h_4 hbc hmost hys hf (List.length_map _)
        exact ⟨sa, sc, by rw [he], by rw [he]⟩
    · skip
      refine JX.op rfl rfl (JO.alloc (z := .agg #[.int .i64 0, .slice none 0 0, .bool false]) (cs := [.int .i64 0, .slice none 0 0, .bool false]) Tryz.zeroValue60 rfl) ?_
      rintro _ _ ⟨b_30, rfl, rfl⟩
      refine ⟨by simp, ?_⟩
      refine JA.one (i := 3) (by kernel_rfl) ?_
      refine JX.op rfl rfl (JO.call [] Tryz.call49 rfl (Y_sBestN d hz (by omega) q hq) rfl (fun w hw => hw.seeOutA hpre nMA)) ?_
      rintro _ _ ⟨_, ⟨rfl, rfl⟩, rfl⟩
      refine ⟨by simp, ?_⟩
      obtain ⟨hr_31, hr_31b, -⟩ := sees_some hs_1 (by omega)
      refine JA.takeP 4 rfl (by kernel_rfl) (NP.th NP.body) (by kernel_rfl) (by kernel_rfl) rfl (PO.indexAddrV (i := q) Tryz.underlying28 Tryz.sizeOf60 hr_31 hr_31b rfl rfl (by omega)) ?_
      have hi_32 := SeesA.elem hi_2 o0 (show q < d.l.length by omega)
      have hs_33 := seesO hi_32
      refine JA.take 5 rfl (by kernel_rfl) (NP.th NP.body) (by kernel_rfl) (by kernel_rfl) (by kernel_rfl) rfl (LO.loadSK (vs := [.int .i64 ((d.l.getD q o0).t.seq), .slice ((d.l.getD q o0).x.a0) ((d.l.getD q o0).t.cells.length) ((d.l.getD q o0).x.c0), .bool ((d.l.getD q o0).t.whole)]) hs_1 (fun _ _ => List.not_mem_nil) rfl Tryz.isAgg60 Tryz.sizeOf60 (flat_take encO_len o0 d.l q (by omega)) rfl (by decide)) ?_
      refine JA.one (i := 7) (by kernel_rfl) ?_
      refine JX.last rfl rfl (by decide) (by kernel_rfl) (JO.store 0 (vs := [.int .i64 ((d.l.getD q o0).t.seq), .slice ((d.l.getD q o0).x.a0) ((d.l.getD q o0).t.cells.length) ((d.l.getD q o0).x.c0), .bool ((d.l.getD q o0).t.whole)]) (cs' := [.int .i64 ((d.l.getD q o0).t.seq), .slice ((d.l.getD q o0).x.a0) ((d.l.getD q o0).t.cells.length) ((d.l.getD q o0).x.c0), .bool ((d.l.getD q o0).t.whole)]) rfl rfl rfl rfl Tryz.sizeOf60 rfl rfl (Nat.le_of_ble_eq_true rfl) rfl) ?_
      rintro _ _ rfl
      refine JQ.seq ?_
      refine JC.seq ?_
      refine JC.region ?_
      refine JL.op rfl (JO.buildSlice (ps := []) (cur := #[]) Tryz.underlying49 Tryz.sizeOf48 Tryz.zeroValue48 rfl (by kernel_rfl) (by decide) (by decide)) ?_
      rintro _ _ ⟨a_34, rfl, rfl⟩
      refine JL.pure rfl (PO.fieldAddr fo60_1 rfl) ?_
      refine JL.ld rfl (LO.load1 1 (v := .slice ((d.l.getD q o0).x.a0) ((d.l.getD q o0).t.cells.length) ((d.l.getD q o0).x.c0)) rfl rfl Tryz.isAgg49 rfl) ?_
      refine JL.op rfl (JO.append' 0 (q := ((d.l.getD q o0).t.cells.length)) (news := ((d.l.getD q o0).t.cells).flatMap encC) (n' := ((d.l.getD q o0).t.cells).length) (cs' := ((d.l.getD q o0).t.cells).flatMap encC) rfl Tryz.underlying49 Tryz.underlying49 Tryz.typeInfo48 rfl (by' := 32) rfl rfl rfl rfl rfl (fun w hw => Src.sees (hw.seeOut_ hs_33 (fun _ _ => List.not_mem_nil)) (oneC _)) (by (try simp only [List.length_append, List.length_cons, List.length_nil, List.length_take, List.length_drop]); omega) (by (try simp only [List.length_append, List.length_cons, List.length_nil, List.length_take, List.length_drop]); omega) (by (try simp only [List.length_take, List.length_drop]); first | rfl | omega) rfl) ?_
      rintro _ _ ⟨a_35, c_36, rfl, rfl⟩
      refine JL.pure rfl (PO.assign (v := .slice a_35 (((d.l.getD q o0).t.cells).length) c_36) rfl) ?_
      refine JL.nil ?_
      refine JQ.seq ?_
      refine JC.seq ?_
      refine JC.region ?_
      refine JL.pure rfl (PO.fieldAddr fo31_1 rfl) ?_
      refine JL.pure rfl (PO.fieldAddr fo29_0 rfl) ?_
      refine JL.ld rfl (LO.load1 2 (v := str d.jt) rfl rfl Tryz.isAgg9 rfl) ?_
      refine JL.pure rfl (PO.fieldAddr fo60_0 rfl) ?_
      refine JL.ld rfl (LO.load1 1 (v := .int .i64 ((d.l.getD q o0).t.seq)) rfl rfl Tryz.isAgg3 rfl) ?_
      refine JL.pure rfl (PO.add (c := ((d.l.getD q o0).t.seq) + 1) rfl rfl (wr (by omega))) ?_
      refine JL.op rfl (JO.call [] Tryz.call69 rfl (Y_sRecs d.jt (((d.l.getD q o0).t.seq) + 1) (by omega)) rfl (fun _ _ => trivial)) ?_
      rintro _ _ ⟨_, ⟨a_37, c_38, y_39, hy_40, rfl, rfl⟩, rfl⟩
      refine JL.pure rfl (PO.move (v := .tuple #[.slice a_37 y_39.length c_38, .int .i64 (((recsOf d.jt (((d.l.getD q o0).t.seq) + 1)).2 : Nat) : Int)]) rfl) ?_
      refine JL.pure rfl (PO.extract (v := .slice a_37 y_39.length c_38) rfl rfl) ?_
      refine JL.pure rfl (PO.extract (v := .int .i64 (((recsOf d.jt (((d.l.getD q o0).t.seq) + 1)).2 : Nat) : Int)) rfl rfl) ?_
      refine JL.pure rfl (PO.assign (v := .slice a_37 y_39.length c_38) rfl) ?_
      refine JL.pure rfl (PO.assign (v := .int .i64 (((recsOf d.jt (((d.l.getD q o0).t.seq) + 1)).2 : Nat) : Int)) rfl) ?_
      refine JL.nil ?_
      refine JQ.seq ?_
      refine JC.seq ?_
      refine JC.seq ?_
      have hys : y_39.map cellsR = (recsOf d.jt ((d.l.getD q o0).t.seq + 1)).1 := hy_40
      have hyc : sumC (y_39.map cellsR) ≤ 20000 := by rw [hys]; omega
      have hyn : y_39.length ≤ 20000 := by have h_ := congrArg List.length hys; rw [List.length_map] at h_; have h2_ := recsOf_count d.jt ((d.l.getD q o0).t.seq + 1); omega
      refine JC.region ?_
      refine JL.pure rfl (PO.assign (v := .int .i64 0) rfl) ?_
      refine JL.nil ?_
      refine JQ.seq ?_
      refine JC.block ?_
      refine JC.ghost (L' := [Res.row (.slice a_37 y_39.length c_38) 49 1 y_39.length (y_39.flatMap encR), Res.rows (y_39.flatMap rdsR), rC a_35 c_36 ((d.l.getD q o0).t.cells), bk b_30 60 [.int .i64 ((d.l.getD q o0).t.seq), .slice ((d.l.getD q o0).x.a0) ((d.l.getD q o0).t.cells.length) ((d.l.getD q o0).x.c0), .bool ((d.l.getD q o0).t.whole)], bk b_3 31 [.slice d.a d.l.length d.c, str d.jt, .int .i64 d.js]]) (fun w hw => hw.headR (r := ⟨.slice a_37 y_39.length c_38, 49, 1, y_39.length, y_39.flatMap encR⟩) (A := y_39.flatMap rdsR) 0 rfl) ?_
      refine JC.ghost (L' := [rC a_35 c_36 ((d.l.getD q o0).t.cells), Res.row (.slice a_37 y_39.length c_38) 49 1 y_39.length (y_39.flatMap encR), Res.rows (y_39.flatMap rdsR), bk b_30 60 [.int .i64 ((d.l.getD q o0).t.seq), .slice ((d.l.getD q o0).x.a0) ((d.l.getD q o0).t.cells.length) ((d.l.getD q o0).x.c0), .bool ((d.l.getD q o0).t.whole)], bk b_3 31 [.slice d.a d.l.length d.c, str d.jt, .int .i64 d.js]]) (fun w hw => hw.perm (pick_perm [2] (A := [rC a_35 c_36 ((d.l.getD q o0).t.cells)]) (F := [Res.row (.slice a_37 y_39.length c_38) 49 1 y_39.length (y_39.flatMap encR), Res.rows (y_39.flatMap rdsR), bk b_30 60 [.int .i64 ((d.l.getD q o0).t.seq), .slice ((d.l.getD q o0).x.a0) ((d.l.getD q o0).t.cells.length) ((d.l.getD q o0).x.c0), .bool ((d.l.getD q o0).t.whole)], bk b_3 31 [.slice d.a d.l.length d.c, str d.jt, .int .i64 d.js]]) rfl).symm) ?_
      refine JC.loop (fun k_ e_ L_ => ∃ j : Nat, ∃ sa : Option Addr, ∃ sc : Nat, ∃ s_ : List Cell, (j ≤ y_39.length) ∧ (s_.length + sumC ((y_39.map cellsR).drop j) ≤ 30000) ∧ (applyAll s_ ((y_39.map cellsR).drop j) = applyAll (d.l.getD q o0).t.cells (y_39.map cellsR)) ∧ e_ 2 = .slice none 0 0 ∧ e_ 3 = .int .i64 0 ∧ e_ 4 = .pointer (some ⟨b_30, 0, none⟩) ∧ e_ 5 = .slice sa s_.length sc ∧ e_ 6 = .slice a_37 y_39.length c_38 ∧ e_ 8 = .int .i64 ((j : Nat) : Int) ∧ L_ = [rC sa sc s_, Res.row (.slice a_37 y_39.length c_38) 49 1 y_39.length (y_39.flatMap encR), Res.rows (y_39.flatMap rdsR), bk b_30 60 [.int .i64 ((d.l.getD q o0).t.seq), .slice ((d.l.getD q o0).x.a0) ((d.l.getD q o0).t.cells.length) ((d.l.getD q o0).x.c0), .bool ((d.l.getD q o0).t.whole)], bk b_3 31 [.slice d.a d.l.length d.c, str d.jt, .int .i64 d.js]] ∧ k_ = y_39.length - j) _ ⟨0, a_35, c_36, (d.l.getD q o0).t.cells, by omega, (by rw [List.drop_zero]; omega), rfl, rfl, rfl, rfl, rfl, rfl, rfl, rfl, rfl⟩ ?_
      rintro _ e_41 _ ⟨j, sa, sc, s_, hj, hb, hR, he_42, he_43, he_44, he_45, he_46, he_47, rfl, rfl⟩
      refine JC.seq ?_
      refine JC.seq ?_
      refine JC.region ?_
      refine JL.pure rfl (PO.move (v := .int .i64 ((j : Nat) : Int)) he_47) ?_
      refine JL.pure rfl (PO.move (v := .slice a_37 y_39.length c_38) he_46) ?_
      refine JL.pure rfl (PO.lenV Tryz.underlying82 rfl) ?_
      refine JL.pure rfl (PO.lss rfl rfl) ?_
      refine JL.nil ?_
      refine JQ.seq ?_
      by_cases h_48 : ((j : Nat) : Int) < ((y_39.length : Nat) : Int)
      · skip
        have hlt : j < y_39.length := by omega
        have hsc := sumC_step hlt
        refine JC.condT (congrArg Value.bool (decide_eq_true h_48)) ?_
        refine JC.skip ?_
        refine JQ.seq ?_
        refine JC.seq ?_
        refine JC.block ?_
        refine JC.region ?_
        refine JL.pure rfl (PO.move (v := .slice sa s_.length sc) he_45) ?_
        refine JL.pure rfl (PO.move (v := .slice a_37 y_39.length c_38) he_46) ?_
        refine JL.pure rfl (PO.move (v := .int .i64 ((j : Nat) : Int)) he_47) ?_
        refine JL.facts fun hst => ?_
        obtain ⟨hr_49, hr_49b, -⟩ := row_some 1 rfl (by omega) hst
        refine JL.pure rfl (PO.indexAddrV (i := j) Tryz.underlying82 Tryz.sizeOf49 hr_49 hr_49b rfl rfl (by omega)) ?_
        refine JL.ld rfl (LO.loadR1 1 (v := .slice ((y_39.getD j r0).x.a0) ((y_39.getD j r0).t.cells.length) ((y_39.getD j r0).x.c0)) rfl rfl Tryz.isAgg49 (flat_at encR_len r0 y_39 j 0 (by omega) (by decide))) ?_
        refine JL.op rfl (JO.call [] Tryz.call96 rfl (Y_sApply sa (y_39.getD j r0).x.a0 sc ((y_39.getD j r0).x.c0) s_ ((y_39.getD j r0).t.cells) (by omega) (by omega) (fun i hi => (rec_key hys hlt hi).1)) rfl (fun w hw => ⟨hw.see (i := 0) rfl, (seesR ((hw.seeRows 2 rfl).elem r0 (by omega)))⟩)) ?_
        rintro _ _ ⟨_, ⟨a_50, c_51, rfl, rfl⟩, rfl⟩
        have hal_52 := applyR_len ((y_39.getD j r0).t.cells) s_
        refine JL.pure rfl (PO.assign (v := .slice a_50 ((applyR s_ ((y_39.getD j r0).t.cells)).length) c_51) rfl) ?_
        refine JL.nil ?_
        refine JQ.blockN ?_
        refine JQ.seq ?_
        refine JC.region ?_
        refine JL.pure rfl (PO.move (v := .int .i64 ((j : Nat) : Int)) he_47) ?_
        refine JL.pure rfl (PO.add (c := ((j + 1 : Nat) : Int)) rfl rfl (wr (by omega))) ?_
        refine JL.pure rfl (PO.assign (v := .int .i64 ((j + 1 : Nat) : Int)) rfl) ?_
        refine JL.nil ?_
        refine JQ.pick [0, 1, 1, 1, 1] (A := [rC a_50 c_51 (applyR s_ ((y_39.getD j r0).t.cells)), Res.row (.slice a_37 y_39.length c_38) 49 1 y_39.length (y_39.flatMap encR), Res.rows (y_39.flatMap rdsR), bk b_30 60 [.int .i64 ((d.l.getD q o0).t.seq), .slice ((d.l.getD q o0).x.a0) ((d.l.getD q o0).t.cells.length) ((d.l.getD q o0).x.c0), .bool ((d.l.getD q o0).t.whole)], bk b_3 31 [.slice d.a d.l.length d.c, str d.jt, .int .i64 d.js]]) rfl ?_
        refine JQ.again (y_39.length - (j + 1)) (by omega) ⟨j + 1, a_50, c_51, (applyR s_ ((y_39.getD j r0).t.cells)), by omega, by omega, (by rw [applyAll_step hlt] at hR; exact hR), he_42, he_43, he_44, rfl, he_46, rfl, rfl, rfl⟩
      · skip
        refine JC.condF (congrArg Value.bool (decide_eq_false h_48)) ?_
        refine JC.exit ?_
        refine JQ.thenExit ?_
        refine JQ.thenExit ?_
        refine JQ.blockE ?_
        refine JQ.seq ?_
        refine JC.seq ?_
        refine JC.regionA [rC sa sc s_, Res.row (.slice a_37 y_39.length c_38) 49 1 y_39.length (y_39.flatMap encR), Res.rows (y_39.flatMap rdsR), bk b_30 60 [.int .i64 ((d.l.getD q o0).t.seq), .slice ((d.l.getD q o0).x.a0) ((d.l.getD q o0).t.cells.length) ((d.l.getD q o0).x.c0), .bool ((d.l.getD q o0).t.whole)], bk b_3 31 [.slice d.a d.l.length d.c, str d.jt, .int .i64 d.js]] 0 mixed (by simp) ?_
        refine JA.takeP 0 rfl (by kernel_rfl) (NP.th NP.body) (by kernel_rfl) (by kernel_rfl) rfl (PO.move (v := .slice sa s_.length sc) he_45) ?_
        refine JA.takeP 1 rfl (by kernel_rfl) (NP.th NP.body) (by kernel_rfl) (by kernel_rfl) rfl (PO.fieldAddr fo60_0 he_44) ?_
        refine JA.takeP 3 rfl (by kernel_rfl) (NP.th NP.body) (by kernel_rfl) (by kernel_rfl) rfl (PO.move (v := .slice a_37 y_39.length c_38) he_46) ?_
        refine JA.takeP 4 rfl (by kernel_rfl) (NP.th NP.body) (by kernel_rfl) (by kernel_rfl) rfl (PO.lenV Tryz.underlying82 rfl) ?_
        refine JA.takeP 6 rfl (by kernel_rfl) (NP.th NP.body) (by kernel_rfl) (by kernel_rfl) rfl (PO.assign (v := .slice sa s_.length sc) rfl) ?_
        refine JA.one (i := 2) (by kernel_rfl) ?_
        refine JX.late rfl rfl (by decide) (by kernel_rfl) (JO.ofLO (LO.load1 3 (v := .int .i64 ((d.l.getD q o0).t.seq)) rfl rfl Tryz.isAgg3 rfl)) ?_
        rintro _ _ ⟨rfl, rfl⟩
        refine JA.takeP 5 rfl (by kernel_rfl) (NP.th NP.body) (by kernel_rfl) (by kernel_rfl) rfl (PO.add (c := ((d.l.getD q o0).t.seq) + ((y_39.length : Nat) : Int)) rfl rfl (wr (by omega))) ?_
        refine JA.takeP 7 rfl (by kernel_rfl) (NP.th NP.body) (by kernel_rfl) (by kernel_rfl) rfl (PO.assign (v := .int .i64 (((d.l.getD q o0).t.seq) + ((y_39.length : Nat) : Int))) rfl) ?_
        refine JA.done (by kernel_rfl) ?_
        refine JQ.seq ?_
        refine JC.ret ?_
        refine Done.two (.inl rfl) rfl (RV.tmp (v := .slice sa s_.length sc) rfl) (RV.tmp (v := .int .i64 (((d.l.getD q o0).t.seq) + ((y_39.length : Nat) : Int))) rfl) (List.sublist_append_left [rC sa sc s_] [Res.row (.slice a_37 y_39.length c_38) 49 1 y_39.length (y_39.flatMap encR), Res.rows (y_39.flatMap rdsR), bk b_30 60 [.int .i64 ((d.l.getD q o0).t.seq), .slice ((d.l.getD q o0).x.a0) ((d.l.getD q o0).t.cells.length) ((d.l.getD q o0).x.c0), .bool ((d.l.getD q o0).t.whole)], bk b_3 31 [.slice d.a d.l.length d.c, str d.jt, .int .i64 d.js]]) ?_
        have hf : s_ = applyAll (d.l.getD q o0).t.cells (y_39.map cellsR) := by rw [show (y_39.map cellsR).drop j = [] from List.drop_of_length_le (by rw [List.length_map]; omega)] at hR; exact hR
        have he := recov_eq h_4 hbc hmost hys hf (List.length_map _)
        exact ⟨sa, sc, by rw [he], by rw [he]⟩
  · skip
    refine JC.condT (congrArg Value.bool (congrArg Bool.not h_4)) ?_
    refine JC.seq ?_
    refine JC.region ?_
    refine JL.op rfl (JO.buildSlice (ps := []) (cur := #[]) Tryz.underlying49 Tryz.sizeOf48 Tryz.zeroValue48 rfl (by kernel_rfl) (by decide) (by decide)) ?_
    rintro _ _ ⟨a_53, rfl, rfl⟩
    refine JL.pure rfl (PO.assign (v := .slice a_53 0 0) rfl) ?_
    refine JL.pure rfl (PO.assign (v := .int .i64 0) rfl) ?_
    refine JL.nil ?_
    refine JQ.seq ?_
    refine JC.ret ?_
    refine JQ.thenRet ?_
    refine Done.two (.inl rfl) rfl (RV.tmp (v := .slice a_53 0 0) rfl) (RV.tmp (v := .int .i64 0) rfl) (List.sublist_append_left [Res.row (.slice a_53 0 0) 48 2 0 (([] : List Cell).flatMap encC)] [bk b_3 31 [.slice d.a d.l.length d.c, str d.jt, .int .i64 d.js]]) ?_
    have he := recov_not h_4
    exact ⟨a_53, 0, by rw [he] <;> rfl, by rw [he] <;> rfl⟩

end Go.Proofs.YtjncpgcccgdeiaaGreatDoor

set_option linter.unusedSimpArgs false
set_option linter.unusedVariables false
set_option linter.unnecessarySimpa false
namespace Go.Proofs.YtjncpgcccgdeiaaGreatDoor
open Go Go.RowKit
section
variable {P : Program} {n : Nat} {e : Env} {d : Option Tmp} {ty : TypeId} {pos : String} {aft : Array Edge} {gd : Option (Nat × Bool)}
theorem PO.fieldK {x : Operand} {t k : TypeId} {fs : Array Field} {f : Field} {i : Nat} {cs : Array Value} {vs : List Value} (ht : P.underlying t = some (.struct fs)) (hf : fs[i]? = some f) (hx : rd n e x = .agg cs) (ha : ∀ w, (isAgg f.type).run P w = .ok true w) (hs : ∀ w, (sizeOf f.type).run P w = .ok k w)
    (hc : cs.extract f.offset (f.offset + k) = vs.toArray) : PO P n e ⟨d, .field t x i, ty, pos, aft, gd⟩ (.agg vs.toArray) := fun w => by
  simp [execOp, hx, Instr.field, run_underlying ht, hf, part, ha, hs, hc, asAgg]
end
attribute [local irreducible] JL JC JQ JO LO PO JA JX Ct

set_option maxRecDepth 4000 in
set_option maxHeartbeats 1000000 in
theorem Y_iFoldB (d : DX) (hz : d.dat.okz) (hl : d.dat.lim 1000000000) :
    Ct Tryz.prog 21 [.agg #[.slice d.a d.l.length d.c, str d.jt, .int .i64 d.js]] [] (fun w => SeesA w (rdsD d) ∧ HexOk w) (fun v A' => ∃ y : DX, y.dat = d.dat.foldB.1 ∧ v = .tuple #[.agg #[.slice y.a y.l.length y.c, str y.jt, .int .i64 y.js], .bool d.dat.foldB.2] ∧ A' = [.rows (rdsD y)]) := by
  refine Ct.introL Tryz.func21 rfl Tryz.ntmps21 (Nat.le_of_ble_eq_true rfl) fun w0 hpre hlow => ?_
  have hs_1 : Sees w0 (.slice d.a d.l.length d.c) 3 d.l.length (d.l.flatMap encO) := (hpre.1).head
  have hi_2 : SeesA w0 (d.l.flatMap rdsO) := (hpre.1).tail
  have hjt := hz.k2
  have hdl : d.l.length ≤ 1000000000 := by have := hl.l0; simpa only [DX.dat, List.length_map] using this
  refine JC.seq ?_
  refine JC.region ?_
  refine JL.op rfl (JO.box (cs := [.slice d.a d.l.length d.c, str d.jt, .int .i64 d.js]) rfl rfl) ?_
  rintro _ _ ⟨b_3, rfl, rfl⟩
  refine JL.op rfl (JO.alloc (z := .agg #[.slice none 0 0, str [], .int .i64 0]) (cs := [.slice none 0 0, str [], .int .i64 0]) Tryz.zeroValue31 rfl) ?_
  rintro _ _ ⟨b_4, rfl, rfl⟩
  refine JL.pure rfl (PO.assign (v := .bool false) rfl) ?_
  refine JL.nil ?_
  refine JQ.seq ?_
  refine JC.seq ?_
  refine JC.region ?_
  refine JL.ld rfl (LO.loadK 1 (vs := [.slice d.a d.l.length d.c, str d.jt, .int .i64 d.js]) rfl rfl Tryz.isAgg31 Tryz.sizeOf31 rfl rfl) ?_
  refine JL.op rfl (JO.call [] Tryz.call62 rfl (Z_implDiskclone d hl) rfl (fun w hw => hw.seeOutA hpre.1 nMA)) ?_
  rintro _ _ ⟨_, ⟨y_5, hy_6, rfl, rfl⟩, rfl⟩
  refine JL.op rfl (JO.alloc (z := .agg #[.slice none 0 0, str [], .int .i64 0]) (cs := [.slice none 0 0, str [], .int .i64 0]) Tryz.zeroValue31 rfl) ?_
  rintro _ _ ⟨b_7, rfl, rfl⟩
  refine JL.op rfl (JO.store 0 (vs := [.slice y_5.a y_5.l.length y_5.c, str y_5.jt, .int .i64 y_5.js]) (cs' := [.slice y_5.a y_5.l.length y_5.c, str y_5.jt, .int .i64 y_5.js]) rfl rfl rfl rfl Tryz.sizeOf31 rfl rfl (Nat.le_of_ble_eq_true rfl) rfl) ?_
  rintro _ _ rfl
  refine JL.nil ?_
  refine JQ.seq ?_
  refine JC.seq ?_
  refine JC.seq ?_
  refine JC.region ?_
  refine JL.ld rfl (LO.loadK 3 (vs := [.slice d.a d.l.length d.c, str d.jt, .int .i64 d.js]) rfl rfl Tryz.isAgg31 Tryz.sizeOf31 rfl rfl) ?_
  refine JL.op rfl (JO.call [] Tryz.call47 rfl (Y_implDiskOk d hz (by omega)) rfl (fun w hw => hw.seeOutA hpre.1 nMA)) ?_
  rintro _ _ ⟨_, ⟨rfl, rfl⟩, rfl⟩
  refine JL.pure rfl (PO.not rfl) ?_
  refine JL.nil ?_
  refine JQ.seq ?_
  rcases Bool.eq_false_or_eq_true (diskOk d.dat) with h_8 | h_8
  · skip
    obtain ⟨q, hq, hql⟩ := diskOk_best h_8
    have hql : q < d.l.length := by simpa only [DX.dat, List.length_map] using hql
    have hjr := diskOk_jour h_8
    have hjr2 : ((d.jt.length : Nat) : Int) ≤ 20000 ∧ 0 ≤ d.js ∧ d.js ≤ ((d.jt.length : Nat) : Int) := by have h_ : jourOk d.jt d.js = true := hjr; simpa only [jourOk, within, Bool.and_eq_true, decide_eq_true_eq, and_assoc] using h_
    have hmost : (d.l.getD q o0).t.seq = mostOf d.dat := by rw [mostOf, hq, Int.toNat_natCast]; exact congrArg SD.seq getD_map'.symm
    have hmr := most_range h_8
    have hl2 := disk_two h_8
    refine JC.condF (congrArg Value.bool (congrArg Bool.not h_8)) ?_
    refine JC.skip ?_
    refine JQ.seq ?_
    refine JC.seq ?_
    refine JC.region ?_
    refine JL.ld rfl (LO.loadK 3 (vs := [.slice d.a d.l.length d.c, str d.jt, .int .i64 d.js]) rfl rfl Tryz.isAgg31 Tryz.sizeOf31 rfl rfl) ?_
    refine JL.op rfl (JO.call [] Tryz.call48 rfl (Y_iBestN d hz (by omega) q hq) rfl (fun w hw => hw.seeOutA hpre.1 nMA)) ?_
    rintro _ _ ⟨_, ⟨rfl, rfl⟩, rfl⟩
    refine JL.pure rfl (PO.assign (v := .int .i64 ((q : Nat) : Int)) rfl) ?_
    refine JL.nil ?_
    refine JQ.seq ?_
    refine JC.seq ?_
    refine JC.region ?_
    refine JL.ld rfl (LO.loadK 3 (vs := [.slice d.a d.l.length d.c, str d.jt, .int .i64 d.js]) rfl rfl Tryz.isAgg31 Tryz.sizeOf31 rfl rfl) ?_
    refine JL.op rfl (JO.call [] Tryz.call33 rfl (Y_iRecov d hz hl) rfl (fun w hw => ⟨hw.seeOutA hpre.1 nMA, hw.hex hlow hpre.2⟩)) ?_
    rintro _ _ ⟨_, ⟨a_9, c_10, rfl, rfl⟩, rfl⟩
    refine JL.pure rfl (PO.move (v := .tuple #[.slice a_9 d.dat.recov.1.length c_10, .int .i64 d.dat.recov.2]) rfl) ?_
    refine JL.pure rfl (PO.extract (v := .slice a_9 d.dat.recov.1.length c_10) rfl rfl) ?_
    refine JL.pure rfl (PO.extract (v := .int .i64 d.dat.recov.2) rfl rfl) ?_
    refine JL.pure rfl (PO.assign (v := .slice a_9 d.dat.recov.1.length c_10) rfl) ?_
    refine JL.pure rfl (PO.assign (v := .int .i64 d.dat.recov.2) rfl) ?_
    refine JL.nil ?_
    refine JQ.seq ?_
    refine JC.seq ?_
    refine JC.seq ?_
    refine JC.region ?_
    refine JL.pure rfl (PO.move (v := .int .i64 d.dat.recov.2) rfl) ?_
    refine JL.pure rfl (PO.gtr rfl rfl) ?_
    refine JL.pure rfl (PO.move (v := .bool (decide (99999 < d.dat.recov.2))) rfl) ?_
    by_cases h_11 : 99999 < d.dat.recov.2
    · skip
      refine JL.guardOff (b := true) rfl rfl rfl (congrArg Value.bool (decide_eq_true h_11)) ?_
      refine JL.guardOff (b := true) rfl rfl rfl (congrArg Value.bool (decide_eq_true h_11)) ?_
      refine JL.guardOff (b := true) rfl rfl rfl (congrArg Value.bool (decide_eq_true h_11)) ?_
      refine JL.guardOff (b := true) rfl rfl rfl (congrArg Value.bool (decide_eq_true h_11)) ?_
      refine JL.guardOff (b := true) rfl rfl rfl (congrArg Value.bool (decide_eq_true h_11)) ?_
      refine JL.guardOff (b := true) rfl rfl rfl (congrArg Value.bool (decide_eq_true h_11)) ?_
      refine JL.guardOff (b := true) rfl rfl rfl (congrArg Value.bool (decide_eq_true h_11)) ?_
      refine JL.guardOff (b := true) rfl rfl rfl (congrArg Value.bool (decide_eq_true h_11)) ?_
      refine JL.pure rfl (PO.pickT (v := .bool true) (congrArg Value.bool (decide_eq_true h_11)) rfl) ?_
      refine JL.nil ?_
      refine JQ.seq ?_
      refine JC.condT (congrArg Value.bool rfl) ?_
      refine JC.seq ?_
      refine JC.region ?_
      refine JL.ld rfl (LO.loadK 1 (vs := [.slice y_5.a y_5.l.length y_5.c, str y_5.jt, .int .i64 y_5.js]) rfl rfl Tryz.isAgg31 Tryz.sizeOf31 rfl rfl) ?_
      refine JL.op rfl (JO.store 3 (vs := [.slice y_5.a y_5.l.length y_5.c, str y_5.jt, .int .i64 y_5.js]) (cs' := [.slice y_5.a y_5.l.length y_5.c, str y_5.jt, .int .i64 y_5.js]) rfl rfl rfl rfl Tryz.sizeOf31 rfl rfl (Nat.le_of_ble_eq_true rfl) rfl) ?_
      rintro _ _ rfl
      refine JL.pure rfl (PO.assign (v := .bool false) rfl) ?_
      refine JL.nil ?_
      refine JQ.seq ?_
      refine JC.ret ?_
      refine JQ.thenRet ?_
      refine JQ.perm (pick_perm [2] (A := [Res.rows (rdsD y_5)]) (F := [rC a_9 c_10 d.dat.recov.1, bk b_7 31 [.slice y_5.a y_5.l.length y_5.c, str y_5.jt, .int .i64 y_5.js], bk b_4 31 [.slice y_5.a y_5.l.length y_5.c, str y_5.jt, .int .i64 y_5.js], bk b_3 31 [.slice d.a d.l.length d.c, str d.jt, .int .i64 d.js]]) rfl).symm ?_
      refine Done.two (.inl rfl) rfl (RV.cell1 (LO.loadK 3 (vs := [.slice y_5.a y_5.l.length y_5.c, str y_5.jt, .int .i64 y_5.js]) rfl rfl Tryz.isAgg31 Tryz.sizeOf31 rfl rfl) ⟨_, rfl⟩) (RV.tmp (v := .bool false) rfl) (List.sublist_append_left [Res.rows (rdsD y_5)] [rC a_9 c_10 d.dat.recov.1, bk b_7 31 [.slice y_5.a y_5.l.length y_5.c, str y_5.jt, .int .i64 y_5.js], bk b_4 31 [.slice y_5.a y_5.l.length y_5.c, str y_5.jt, .int .i64 y_5.js], bk b_3 31 [.slice d.a d.l.length d.c, str d.jt, .int .i64 d.js]]) ?_
      have he := foldB_no (d := d.dat) (by rintro ⟨h_1, h_2⟩; first | omega | simp_all)
      exact ⟨y_5, (hy_6).trans (congrArg Prod.fst he).symm, by rw [he], rfl⟩
    · skip
      refine JL.guardOn rfl rfl rfl (congrArg Value.bool (decide_eq_false h_11)) (JO.ofLO (LO.pure (PO.move (v := .int .i64 d.dat.recov.2) rfl))) ?_
      rintro _ _ ⟨rfl, rfl⟩
      refine JL.guardOn rfl rfl rfl (congrArg Value.bool (decide_eq_false h_11)) (JO.ofLO (LO.pure (PO.fieldAddr fo31_0 rfl))) ?_
      rintro _ _ ⟨rfl, rfl⟩
      refine JL.guardOn rfl rfl rfl (congrArg Value.bool (decide_eq_false h_11)) (JO.ofLO (LO.load1 4 (v := .slice d.a d.l.length d.c) rfl rfl Tryz.isAgg28 rfl)) ?_
      rintro _ _ ⟨rfl, rfl⟩
      refine JL.guardOn rfl rfl rfl (congrArg Value.bool (decide_eq_false h_11)) (JO.ofLO (LO.pure (PO.move (v := .int .i64 ((q : Nat) : Int)) rfl))) ?_
      rintro _ _ ⟨rfl, rfl⟩
      obtain ⟨hr_12, hr_12b, -⟩ := sees_some hs_1 (by omega)
      refine JL.guardOn rfl rfl rfl (congrArg Value.bool (decide_eq_false h_11)) (JO.ofLO (LO.pure (PO.indexAddrV (i := q) Tryz.underlying28 Tryz.sizeOf60 hr_12 hr_12b rfl rfl (by omega)))) ?_
      rintro _ _ ⟨rfl, rfl⟩
      refine JL.guardOn rfl rfl rfl (congrArg Value.bool (decide_eq_false h_11)) (JO.ofLO (LO.pure (PO.fieldAddrE fo60_0 hr_12 rfl))) ?_
      rintro _ _ ⟨rfl, rfl⟩
      have hi_13 := SeesA.elem hi_2 o0 (show q < d.l.length by omega)
      have hs_14 := seesO hi_13
      refine JL.guardOn rfl rfl rfl (congrArg Value.bool (decide_eq_false h_11)) (JO.ofLO (LO.loadS1 (v := .int .i64 ((d.l.getD q o0).t.seq)) hs_1 (fun _ _ => List.not_mem_nil) rfl Tryz.isAgg3 (flat_at encO_len o0 d.l q 0 (by omega) (by decide)))) ?_
      rintro _ _ ⟨rfl, rfl⟩
      refine JL.guardOn rfl rfl rfl (congrArg Value.bool (decide_eq_false h_11)) (JO.ofLO (LO.pure (PO.eqlI rfl rfl))) ?_
      rintro _ _ ⟨rfl, rfl⟩
      refine JL.pure rfl (PO.pickF (v := .bool (decide (d.dat.recov.2 = ((d.l.getD q o0).t.seq)))) (congrArg Value.bool (decide_eq_false h_11)) rfl) ?_
      refine JL.nil ?_
      refine JQ.seq ?_
      by_cases h_15 : d.dat.recov.2 = ((d.l.getD q o0).t.seq)
      · skip
        refine JC.condT (congrArg Value.bool (decide_eq_true h_15)) ?_
        refine JC.seq ?_
        refine JC.region ?_
        refine JL.ld rfl (LO.loadK 1 (vs := [.slice y_5.a y_5.l.length y_5.c, str y_5.jt, .int .i64 y_5.js]) rfl rfl Tryz.isAgg31 Tryz.sizeOf31 rfl rfl) ?_
        refine JL.op rfl (JO.store 3 (vs := [.slice y_5.a y_5.l.length y_5.c, str y_5.jt, .int .i64 y_5.js]) (cs' := [.slice y_5.a y_5.l.length y_5.c, str y_5.jt, .int .i64 y_5.js]) rfl rfl rfl rfl Tryz.sizeOf31 rfl rfl (Nat.le_of_ble_eq_true rfl) rfl) ?_
        rintro _ _ rfl
        refine JL.pure rfl (PO.assign (v := .bool false) rfl) ?_
        refine JL.nil ?_
        refine JQ.seq ?_
        refine JC.ret ?_
        refine JQ.thenRet ?_
        refine JQ.perm (pick_perm [2] (A := [Res.rows (rdsD y_5)]) (F := [rC a_9 c_10 d.dat.recov.1, bk b_7 31 [.slice y_5.a y_5.l.length y_5.c, str y_5.jt, .int .i64 y_5.js], bk b_4 31 [.slice y_5.a y_5.l.length y_5.c, str y_5.jt, .int .i64 y_5.js], bk b_3 31 [.slice d.a d.l.length d.c, str d.jt, .int .i64 d.js]]) rfl).symm ?_
        refine Done.two (.inl rfl) rfl (RV.cell1 (LO.loadK 3 (vs := [.slice y_5.a y_5.l.length y_5.c, str y_5.jt, .int .i64 y_5.js]) rfl rfl Tryz.isAgg31 Tryz.sizeOf31 rfl rfl) ⟨_, rfl⟩) (RV.tmp (v := .bool false) rfl) (List.sublist_append_left [Res.rows (rdsD y_5)] [rC a_9 c_10 d.dat.recov.1, bk b_7 31 [.slice y_5.a y_5.l.length y_5.c, str y_5.jt, .int .i64 y_5.js], bk b_4 31 [.slice y_5.a y_5.l.length y_5.c, str y_5.jt, .int .i64 y_5.js], bk b_3 31 [.slice d.a d.l.length d.c, str d.jt, .int .i64 d.js]]) ?_
        have he := foldB_no (d := d.dat) (by rintro ⟨h_1, h_2⟩; first | omega | simp_all)
        exact ⟨y_5, (hy_6).trans (congrArg Prod.fst he).symm, by rw [he], rfl⟩
      · skip
        refine JC.condF (congrArg Value.bool (decide_eq_false h_15)) ?_
        refine JC.skip ?_
        refine JQ.seq ?_
        refine JC.seq ?_
        refine JC.region ?_
        refine JL.ld rfl (LO.loadK 4 (vs := [.slice d.a d.l.length d.c, str d.jt, .int .i64 d.js]) rfl rfl Tryz.isAgg31 Tryz.sizeOf31 rfl rfl) ?_
        refine JL.op rfl (JO.call [] Tryz.call19 rfl (Y_iClean d hz hl) rfl (fun w hw => ⟨hw.seeOutA hpre.1 nMA, hw.hex hlow hpre.2⟩)) ?_
        rintro _ _ ⟨_, ⟨y_16, hy_17, rfl, rfl⟩, rfl⟩
        refine JL.op rfl (JO.store 2 (vs := [.slice y_16.a y_16.l.length y_16.c, str y_16.jt, .int .i64 y_16.js]) (cs' := [.slice y_16.a y_16.l.length y_16.c, str y_16.jt, .int .i64 y_16.js]) rfl rfl rfl rfl Tryz.sizeOf31 rfl rfl (Nat.le_of_ble_eq_true rfl) rfl) ?_
        rintro _ _ rfl
        refine JL.nil ?_
        refine JQ.seq ?_
        refine JC.seq ?_
        have hzl : y_16.l.length = 2 := by have e_ := congrArg (fun q : DD => q.slots.length) hy_17; rw [clean_slots] at e_; simp only [DX.dat, List.length_map] at e_; omega
        refine JC.ghost (L' := [Res.row (.slice y_16.a y_16.l.length y_16.c) 60 3 y_16.l.length (y_16.l.flatMap encO), Res.rows (y_16.l.flatMap rdsO), rC a_9 c_10 d.dat.recov.1, bk b_7 31 [.slice y_16.a y_16.l.length y_16.c, str y_16.jt, .int .i64 y_16.js], Res.rows (rdsD y_5), bk b_4 31 [.slice none 0 0, str [], .int .i64 0], bk b_3 31 [.slice d.a d.l.length d.c, str d.jt, .int .i64 d.js]]) (fun w hw => hw.headR (r := ⟨.slice y_16.a y_16.l.length y_16.c, 60, 3, y_16.l.length, y_16.l.flatMap encO⟩) (A := y_16.l.flatMap rdsO) 0 rfl) ?_
        refine JC.region ?_
        refine JL.pure rfl (PO.fieldAddr fo31_0 rfl) ?_
        refine JL.ld rfl (LO.load1 3 (v := .slice y_16.a y_16.l.length y_16.c) rfl rfl Tryz.isAgg28 rfl) ?_
        refine JL.pure rfl (PO.move (v := .int .i64 ((q : Nat) : Int)) rfl) ?_
        refine JL.pure rfl (PO.sub (c := ((1 - q : Nat) : Int)) rfl rfl (wr (by omega))) ?_
        refine JL.pure rfl (PO.move (v := .int .i64 d.dat.recov.2) rfl) ?_
        refine JL.pure rfl (PO.move (v := .slice a_9 d.dat.recov.1.length c_10) rfl) ?_
        refine JL.pure rfl (PO.build (ps := [(0, .int .i64 d.dat.recov.2), (1, .slice a_9 d.dat.recov.1.length c_10)]) (cs := [.int .i64 d.dat.recov.2, .slice a_9 d.dat.recov.1.length c_10, .bool false]) rfl (by kernel_rfl)) ?_
        refine JL.facts fun hst => ?_
        obtain ⟨hr_18, hr_18b, -⟩ := row_some 0 rfl (by omega) hst
        refine JL.pure rfl (PO.indexAddrV (i := (1 - q)) Tryz.underlying28 Tryz.sizeOf60 hr_18 hr_18b rfl rfl (by omega)) ?_
        refine JL.op rfl (JO.storeR 0 (vs := [.int .i64 d.dat.recov.2, .slice a_9 d.dat.recov.1.length c_10, .bool false]) (cs' := (y_16.l.set (1 - q) (⟨⟨a_9, c_10⟩, ⟨d.dat.recov.2, d.dat.recov.1, false⟩⟩ : OX)).flatMap encO) rfl rfl rfl rfl Tryz.sizeOf60 rfl rfl (by decide) (by rw [flat_length encO_len]; omega) (flat_set encO_len y_16.l (1 - q) (⟨⟨a_9, c_10⟩, ⟨d.dat.recov.2, d.dat.recov.1, false⟩⟩ : OX) (by omega))) ?_
        rintro _ _ rfl
        refine JL.nil ?_
        refine JQ.seq ?_
        refine JC.seq ?_
        refine JC.region ?_
        refine JL.ld rfl (LO.loadK 3 (vs := [.slice y_16.a y_16.l.length y_16.c, str y_16.jt, .int .i64 y_16.js]) rfl rfl Tryz.isAgg31 Tryz.sizeOf31 rfl rfl) ?_
        refine JL.op rfl (JO.store 5 (vs := [.slice y_16.a y_16.l.length y_16.c, str y_16.jt, .int .i64 y_16.js]) (cs' := [.slice y_16.a y_16.l.length y_16.c, str y_16.jt, .int .i64 y_16.js]) rfl rfl rfl rfl Tryz.sizeOf31 rfl rfl (Nat.le_of_ble_eq_true rfl) rfl) ?_
        rintro _ _ rfl
        refine JL.pure rfl (PO.assign (v := .bool true) rfl) ?_
        refine JL.nil ?_
        refine JQ.seq ?_
        refine JC.ret ?_
        have hi1 : 1 - q < y_16.l.length := by omega
        refine JQ.ghost (L' := [Res.rows ((y_16.l.take (1 - q)).flatMap rdsO), Res.rows (rdsO (y_16.l.getD (1 - q) o0)), Res.rows ((y_16.l.drop (1 - q + 1)).flatMap rdsO), Res.row (.slice y_16.a y_16.l.length y_16.c) 60 3 y_16.l.length ((y_16.l.set (1 - q) (⟨⟨a_9, c_10⟩, ⟨d.dat.recov.2, d.dat.recov.1, false⟩⟩ : OX)).flatMap encO), rC a_9 c_10 d.dat.recov.1, bk b_7 31 [.slice y_16.a y_16.l.length y_16.c, str y_16.jt, .int .i64 y_16.js], Res.rows (rdsD y_5), bk b_4 31 [.slice y_16.a y_16.l.length y_16.c, str y_16.jt, .int .i64 y_16.js], bk b_3 31 [.slice d.a d.l.length d.c, str d.jt, .int .i64 d.js]]) (fun w hw => hw.splitR 1 rfl (flatMap_at o0 hi1)) ?_
        refine JQ.ghost (L' := [Res.rows (rdsO (⟨⟨a_9, c_10⟩, ⟨d.dat.recov.2, d.dat.recov.1, false⟩⟩ : OX)), Res.rows ((y_16.l.take (1 - q)).flatMap rdsO), Res.rows (rdsO (y_16.l.getD (1 - q) o0)), Res.rows ((y_16.l.drop (1 - q + 1)).flatMap rdsO), Res.row (.slice y_16.a y_16.l.length y_16.c) 60 3 y_16.l.length ((y_16.l.set (1 - q) (⟨⟨a_9, c_10⟩, ⟨d.dat.recov.2, d.dat.recov.1, false⟩⟩ : OX)).flatMap encO), bk b_7 31 [.slice y_16.a y_16.l.length y_16.c, str y_16.jt, .int .i64 y_16.js], Res.rows (rdsD y_5), bk b_4 31 [.slice y_16.a y_16.l.length y_16.c, str y_16.jt, .int .i64 y_16.js], bk b_3 31 [.slice d.a d.l.length d.c, str d.jt, .int .i64 d.js]]) (fun w hw => hw.closeR (A := rdsO (⟨⟨a_9, c_10⟩, ⟨d.dat.recov.2, d.dat.recov.1, false⟩⟩ : OX)) [4] rfl) ?_
        refine JQ.ghost (L' := [Res.rows ((y_16.l.set (1 - q) (⟨⟨a_9, c_10⟩, ⟨d.dat.recov.2, d.dat.recov.1, false⟩⟩ : OX)).flatMap rdsO), Res.rows (rdsO (y_16.l.getD (1 - q) o0)), Res.row (.slice y_16.a y_16.l.length y_16.c) 60 3 y_16.l.length ((y_16.l.set (1 - q) (⟨⟨a_9, c_10⟩, ⟨d.dat.recov.2, d.dat.recov.1, false⟩⟩ : OX)).flatMap encO), bk b_7 31 [.slice y_16.a y_16.l.length y_16.c, str y_16.jt, .int .i64 y_16.js], Res.rows (rdsD y_5), bk b_4 31 [.slice y_16.a y_16.l.length y_16.c, str y_16.jt, .int .i64 y_16.js], bk b_3 31 [.slice d.a d.l.length d.c, str d.jt, .int .i64 d.js]]) (fun w hw => hw.joinR [1, 0, 1] rfl (flatMap_setAt hi1)) ?_
        refine JQ.ghost (L' := [Res.rows ((y_16.l.set (1 - q) (⟨⟨a_9, c_10⟩, ⟨d.dat.recov.2, d.dat.recov.1, false⟩⟩ : OX)).flatMap rdsO), Res.rows (rdsO (y_16.l.getD (1 - q) o0)), Res.row (.slice y_16.a ((y_16.l.set (1 - q) (⟨⟨a_9, c_10⟩, ⟨d.dat.recov.2, d.dat.recov.1, false⟩⟩ : OX)).length) y_16.c) 60 3 ((y_16.l.set (1 - q) (⟨⟨a_9, c_10⟩, ⟨d.dat.recov.2, d.dat.recov.1, false⟩⟩ : OX)).length) ((y_16.l.set (1 - q) (⟨⟨a_9, c_10⟩, ⟨d.dat.recov.2, d.dat.recov.1, false⟩⟩ : OX)).flatMap encO), bk b_7 31 [.slice y_16.a y_16.l.length y_16.c, str y_16.jt, .int .i64 y_16.js], Res.rows (rdsD y_5), bk b_4 31 [.slice y_16.a y_16.l.length y_16.c, str y_16.jt, .int .i64 y_16.js], bk b_3 31 [.slice d.a d.l.length d.c, str d.jt, .int .i64 d.js]]) (fun w hw => hw.eqL (by simp only [List.length_set])) ?_
        refine JQ.ghost (L' := [Res.rows (rdsOS y_16.a y_16.c (y_16.l.set (1 - q) (⟨⟨a_9, c_10⟩, ⟨d.dat.recov.2, d.dat.recov.1, false⟩⟩ : OX))), Res.rows (rdsO (y_16.l.getD (1 - q) o0)), bk b_7 31 [.slice y_16.a y_16.l.length y_16.c, str y_16.jt, .int .i64 y_16.js], Res.rows (rdsD y_5), bk b_4 31 [.slice y_16.a y_16.l.length y_16.c, str y_16.jt, .int .i64 y_16.js], bk b_3 31 [.slice d.a d.l.length d.c, str d.jt, .int .i64 d.js]]) (fun w hw => hw.consR (r := ⟨.slice y_16.a ((y_16.l.set (1 - q) (⟨⟨a_9, c_10⟩, ⟨d.dat.recov.2, d.dat.recov.1, false⟩⟩ : OX)).length) y_16.c, 60, 3, (y_16.l.set (1 - q) (⟨⟨a_9, c_10⟩, ⟨d.dat.recov.2, d.dat.recov.1, false⟩⟩ : OX)).length, (y_16.l.set (1 - q) (⟨⟨a_9, c_10⟩, ⟨d.dat.recov.2, d.dat.recov.1, false⟩⟩ : OX)).flatMap encO⟩) (A := (y_16.l.set (1 - q) (⟨⟨a_9, c_10⟩, ⟨d.dat.recov.2, d.dat.recov.1, false⟩⟩ : OX)).flatMap rdsO) [2, 0] rfl) ?_
        refine Done.two (.inl rfl) rfl (RV.cell1 (LO.loadK 4 (vs := [.slice y_16.a y_16.l.length y_16.c, str y_16.jt, .int .i64 y_16.js]) rfl rfl Tryz.isAgg31 Tryz.sizeOf31 rfl rfl) ⟨_, rfl⟩) (RV.tmp (v := .bool true) rfl) (List.sublist_append_left [Res.rows (rdsOS y_16.a y_16.c (y_16.l.set (1 - q) (⟨⟨a_9, c_10⟩, ⟨d.dat.recov.2, d.dat.recov.1, false⟩⟩ : OX)))] [Res.rows (rdsO (y_16.l.getD (1 - q) o0)), bk b_7 31 [.slice y_16.a y_16.l.length y_16.c, str y_16.jt, .int .i64 y_16.js], Res.rows (rdsD y_5), bk b_4 31 [.slice y_16.a y_16.l.length y_16.c, str y_16.jt, .int .i64 y_16.js], bk b_3 31 [.slice d.a d.l.length d.c, str d.jt, .int .i64 d.js]]) ?_
        have he := foldB_yes (d := d.dat) ⟨h_8, by omega, by omega⟩
        have hc := hy_17
        rw [DD.clean, if_pos h_8] at hc
        refine ⟨(⟨y_16.a, y_16.c, y_16.l.set (1 - q) (⟨⟨a_9, c_10⟩, ⟨d.dat.recov.2, d.dat.recov.1, false⟩⟩ : OX), y_16.jt, y_16.js⟩ : DX), ?_, by simp only [he, List.length_set], rfl⟩
        rw [he]
        exact fold_dat (congrArg DD.slots hc) (congrArg DD.jt hc) (congrArg DD.js hc) hq rfl
  · skip
    refine JC.condT (congrArg Value.bool (congrArg Bool.not h_8)) ?_
    refine JC.seq ?_
    refine JC.region ?_
    refine JL.ld rfl (LO.loadK 0 (vs := [.slice y_5.a y_5.l.length y_5.c, str y_5.jt, .int .i64 y_5.js]) rfl rfl Tryz.isAgg31 Tryz.sizeOf31 rfl rfl) ?_
    refine JL.op rfl (JO.store 2 (vs := [.slice y_5.a y_5.l.length y_5.c, str y_5.jt, .int .i64 y_5.js]) (cs' := [.slice y_5.a y_5.l.length y_5.c, str y_5.jt, .int .i64 y_5.js]) rfl rfl rfl rfl Tryz.sizeOf31 rfl rfl (Nat.le_of_ble_eq_true rfl) rfl) ?_
    rintro _ _ rfl
    refine JL.pure rfl (PO.assign (v := .bool false) rfl) ?_
    refine JL.nil ?_
    refine JQ.seq ?_
    refine JC.ret ?_
    refine JQ.thenRet ?_
    refine JQ.perm (pick_perm [1] (A := [Res.rows (rdsD y_5)]) (F := [bk b_7 31 [.slice y_5.a y_5.l.length y_5.c, str y_5.jt, .int .i64 y_5.js], bk b_4 31 [.slice y_5.a y_5.l.length y_5.c, str y_5.jt, .int .i64 y_5.js], bk b_3 31 [.slice d.a d.l.length d.c, str d.jt, .int .i64 d.js]]) rfl).symm ?_
    refine Done.two (.inl rfl) rfl (RV.cell1 (LO.loadK 2 (vs := [.slice y_5.a y_5.l.length y_5.c, str y_5.jt, .int .i64 y_5.js]) rfl rfl Tryz.isAgg31 Tryz.sizeOf31 rfl rfl) ⟨_, rfl⟩) (RV.tmp (v := .bool false) rfl) (List.sublist_append_left [Res.rows (rdsD y_5)] [bk b_7 31 [.slice y_5.a y_5.l.length y_5.c, str y_5.jt, .int .i64 y_5.js], bk b_4 31 [.slice y_5.a y_5.l.length y_5.c, str y_5.jt, .int .i64 y_5.js], bk b_3 31 [.slice d.a d.l.length d.c, str d.jt, .int .i64 d.js]]) ?_
    have he := foldB_no (d := d.dat) (by rintro ⟨h_1, h_2⟩; first | omega | simp_all)
    exact ⟨y_5, (hy_6).trans (congrArg Prod.fst he).symm, by rw [he], rfl⟩

set_option maxRecDepth 4000 in
set_option maxHeartbeats 1000000 in
theorem Y_sOther (d : DX) (hz : d.dat.okz) (hl : d.dat.lim 1000000000) (q : Nat) (hq : bestD d.dat = ((q : Nat) : Int)) (hq2 : q < 2) :
    Ct Tryz.prog 71 [.agg #[.slice d.a d.l.length d.c, str d.jt, .int .i64 d.js]] [] (fun w => SeesA w (rdsD d)) (fun v A' => v = .int .i64 ((1 - q : Nat) : Int) ∧ A' = []) := by
  refine Ct.intro Tryz.func71 rfl Tryz.ntmps71 (Nat.le_of_ble_eq_true rfl) fun w0 hpre => ?_
  have hs_1 : Sees w0 (.slice d.a d.l.length d.c) 3 d.l.length (d.l.flatMap encO) := (hpre).head
  have hi_2 : SeesA w0 (d.l.flatMap rdsO) := (hpre).tail
  have hjt := hz.k2
  have hdl : d.l.length ≤ 1000000000 := by have := hl.l0; simpa only [DX.dat, List.length_map] using this
  refine JC.seq ?_
  refine JC.region ?_
  refine JL.op rfl (JO.box (cs := [.slice d.a d.l.length d.c, str d.jt, .int .i64 d.js]) rfl rfl) ?_
  rintro _ _ ⟨b_3, rfl, rfl⟩
  refine JL.pure rfl (PO.assign (v := .int .i64 0) rfl) ?_
  refine JL.nil ?_
  refine JQ.seq ?_
  refine JC.seq ?_
  refine JC.region ?_
  refine JL.ld rfl (LO.loadK 0 (vs := [.slice d.a d.l.length d.c, str d.jt, .int .i64 d.js]) rfl rfl Tryz.isAgg31 Tryz.sizeOf31 rfl rfl) ?_
  refine JL.op rfl (JO.call [] Tryz.call49 rfl (Y_sBestN d hz (by omega) q hq) rfl (fun w hw => hw.seeOutA hpre nMA)) ?_
  rintro _ _ ⟨_, ⟨rfl, rfl⟩, rfl⟩
  refine JL.pure rfl (PO.sub (c := ((1 - q : Nat) : Int)) rfl rfl (wr (by omega))) ?_
  refine JL.pure rfl (PO.assign (v := .int .i64 ((1 - q : Nat) : Int)) rfl) ?_
  refine JL.nil ?_
  refine JQ.seq ?_
  refine JC.ret ?_
  refine Done.one (.inl rfl) rfl (RV.tmp (v := .int .i64 ((1 - q : Nat) : Int)) rfl) (List.nil_sublist _) ?_
  exact ⟨rfl, rfl⟩

set_option maxRecDepth 4000 in
set_option maxHeartbeats 1000000 in
theorem Y_sFoldB (d : DX) (hz : d.dat.okz) (hl : d.dat.lim 1000000000) :
    Ct Tryz.prog 20 [.agg #[.slice d.a d.l.length d.c, str d.jt, .int .i64 d.js]] [] (fun w => SeesA w (rdsD d)) (fun v A' => ∃ y : DX, y.dat = d.dat.foldB.1 ∧ v = .tuple #[.agg #[.slice y.a y.l.length y.c, str y.jt, .int .i64 y.js], .bool d.dat.foldB.2] ∧ A' = [.rows (rdsD y)]) := by
  refine Ct.intro Tryz.func20 rfl Tryz.ntmps20 (Nat.le_of_ble_eq_true rfl) fun w0 hpre => ?_
  have hs_1 : Sees w0 (.slice d.a d.l.length d.c) 3 d.l.length (d.l.flatMap encO) := (hpre).head
  have hi_2 : SeesA w0 (d.l.flatMap rdsO) := (hpre).tail
  have hjt := hz.k2
  have hdl : d.l.length ≤ 1000000000 := by have := hl.l0; simpa only [DX.dat, List.length_map] using this
  refine JC.seq ?_
  refine JC.region ?_
  refine JL.op rfl (JO.box (cs := [.slice d.a d.l.length d.c, str d.jt, .int .i64 d.js]) rfl rfl) ?_
  rintro _ _ ⟨b_3, rfl, rfl⟩
  refine JL.op rfl (JO.alloc (z := .agg #[.slice none 0 0, str [], .int .i64 0]) (cs := [.slice none 0 0, str [], .int .i64 0]) Tryz.zeroValue31 rfl) ?_
  rintro _ _ ⟨b_4, rfl, rfl⟩
  refine JL.pure rfl (PO.assign (v := .bool false) rfl) ?_
  refine JL.nil ?_
  refine JQ.seq ?_
  refine JC.seq ?_
  refine JC.region ?_
  refine JL.ld rfl (LO.loadK 1 (vs := [.slice d.a d.l.length d.c, str d.jt, .int .i64 d.js]) rfl rfl Tryz.isAgg31 Tryz.sizeOf31 rfl rfl) ?_
  refine JL.op rfl (JO.call [] Tryz.call56 rfl (Z_specl23Copy d hl) rfl (fun w hw => hw.seeOutA hpre nMA)) ?_
  rintro _ _ ⟨_, ⟨y_5, hy_6, rfl, rfl⟩, rfl⟩
  refine JL.op rfl (JO.store 2 (vs := [.slice y_5.a y_5.l.length y_5.c, str y_5.jt, .int .i64 y_5.js]) (cs' := [.slice y_5.a y_5.l.length y_5.c, str y_5.jt, .int .i64 y_5.js]) rfl rfl rfl rfl Tryz.sizeOf31 rfl rfl (Nat.le_of_ble_eq_true rfl) rfl) ?_
  rintro _ _ rfl
  refine JL.nil ?_
  refine JQ.seq ?_
  refine JC.seq ?_
  have hzy : y_5.dat.okz := by rw [hy_6]; exact hz
  have hly : y_5.dat.lim 1000000000 := by rw [hy_6]; exact hl
  have hyl : y_5.l.length = d.l.length := by have e_ := congrArg (fun q : DD => q.slots.length) hy_6; simpa only [DX.dat, List.length_map] using e_
  have hyt : y_5.jt = d.jt := congrArg DD.jt hy_6
  have hytl : y_5.jt.length = d.jt.length := by rw [hyt]
  refine JC.region ?_
  refine JL.ld rfl (LO.loadK 2 (vs := [.slice y_5.a y_5.l.length y_5.c, str y_5.jt, .int .i64 y_5.js]) rfl rfl Tryz.isAgg31 Tryz.sizeOf31 rfl rfl) ?_
  refine JL.op rfl (JO.call [] Tryz.call43 rfl (Y_sRecov y_5 hzy hly) rfl (fun w hw => hw.seeRows 0 rfl)) ?_
  rintro _ _ ⟨_, ⟨a_7, c_8, rfl, rfl⟩, rfl⟩
  refine JL.pure rfl (PO.move (v := .tuple #[.slice a_7 y_5.dat.recov.1.length c_8, .int .i64 y_5.dat.recov.2]) rfl) ?_
  refine JL.pure rfl (PO.extract (v := .slice a_7 y_5.dat.recov.1.length c_8) rfl rfl) ?_
  refine JL.pure rfl (PO.extract (v := .int .i64 y_5.dat.recov.2) rfl rfl) ?_
  refine JL.pure rfl (PO.assign (v := .slice a_7 y_5.dat.recov.1.length c_8) rfl) ?_
  refine JL.pure rfl (PO.assign (v := .int .i64 y_5.dat.recov.2) rfl) ?_
  refine JL.nil ?_
  refine JQ.seq ?_
  refine JC.seq ?_
  refine JC.seq ?_
  refine JC.ghost (L' := [Res.row (.slice y_5.a y_5.l.length y_5.c) 60 3 y_5.l.length (y_5.l.flatMap encO), Res.rows (y_5.l.flatMap rdsO), rC a_7 c_8 y_5.dat.recov.1, bk b_4 31 [.slice none 0 0, str [], .int .i64 0], bk b_3 31 [.slice y_5.a y_5.l.length y_5.c, str y_5.jt, .int .i64 y_5.js]]) (fun w hw => hw.headR (r := ⟨.slice y_5.a y_5.l.length y_5.c, 60, 3, y_5.l.length, y_5.l.flatMap encO⟩) (A := y_5.l.flatMap rdsO) 1 rfl) ?_
  refine JC.regionA [Res.row (.slice y_5.a y_5.l.length y_5.c) 60 3 y_5.l.length (y_5.l.flatMap encO), Res.rows (y_5.l.flatMap rdsO), rC a_7 c_8 y_5.dat.recov.1, bk b_4 31 [.slice none 0 0, str [], .int .i64 0], bk b_3 31 [.slice y_5.a y_5.l.length y_5.c, str y_5.jt, .int .i64 y_5.js]] 1000 mixed (by simp) ?_
  refine JA.take 0 rfl (by kernel_rfl) (NP.th (NP.th NP.body)) (by kernel_rfl) (by kernel_rfl) (by kernel_rfl) rfl (LO.loadK 4 (vs := [.slice y_5.a y_5.l.length y_5.c, str y_5.jt, .int .i64 y_5.js]) rfl rfl Tryz.isAgg31 Tryz.sizeOf31 rfl rfl) ?_
  refine JA.one (i := 1) (by kernel_rfl) ?_
  refine JX.op rfl rfl (JO.call [] Tryz.call42 rfl (Y_specDiskOk y_5 hzy (by omega)) rfl (fun w hw => SeesA.cons (hw.see (i := 0) rfl) (hw.seeRows 1 rfl))) ?_
  rintro _ _ ⟨_, ⟨rfl, rfl⟩, rfl⟩
  refine ⟨by simp, ?_⟩
  refine JA.takeP 2 rfl (by kernel_rfl) (NP.th (NP.th NP.body)) (by kernel_rfl) (by kernel_rfl) rfl (PO.not rfl) ?_
  refine JA.takeP 3 rfl (by kernel_rfl) (NP.th (NP.th NP.body)) (by kernel_rfl) (by kernel_rfl) rfl (PO.move (v := .bool (!(diskOk y_5.dat))) rfl) ?_
  rcases Bool.eq_false_or_eq_true (diskOk y_5.dat) with h_9 | h_9
  · skip
    obtain ⟨q, hq, hql⟩ := diskOk_best h_9
    have hql : q < y_5.l.length := by simpa only [DX.dat, List.length_map] using hql
    have hjr := diskOk_jour h_9
    have hjr2 : ((y_5.jt.length : Nat) : Int) ≤ 20000 ∧ 0 ≤ y_5.js ∧ y_5.js ≤ ((y_5.jt.length : Nat) : Int) := by have h_ : jourOk y_5.jt y_5.js = true := hjr; simpa only [jourOk, within, Bool.and_eq_true, decide_eq_true_eq, and_assoc] using h_
    have hmost : (y_5.l.getD q o0).t.seq = mostOf y_5.dat := by rw [mostOf, hq, Int.toNat_natCast]; exact congrArg SD.seq getD_map'.symm
    have hmr := most_range h_9
    have hl2 := disk_two h_9
    refine JA.takeOnP 4 rfl (by kernel_rfl) (NP.th (NP.th NP.body)) (by kernel_rfl) (by kernel_rfl) rfl rfl rfl (congrArg Value.bool (congrArg Bool.not h_9)) (PO.move (v := .int .i64 y_5.dat.recov.2) rfl) ?_
    refine JA.takeOnP 5 rfl (by kernel_rfl) (NP.th (NP.th NP.body)) (by kernel_rfl) (by kernel_rfl) rfl rfl rfl (congrArg Value.bool (congrArg Bool.not h_9)) (PO.gtr rfl rfl) ?_
    refine JA.takeP 6 rfl (by kernel_rfl) (NP.th (NP.th NP.body)) (by kernel_rfl) (by kernel_rfl) rfl (PO.pickF (v := .bool (decide (99999 < y_5.dat.recov.2))) (congrArg Value.bool (congrArg Bool.not h_9)) rfl) ?_
    refine JA.takeP 7 rfl (by kernel_rfl) (NP.th (NP.th NP.body)) (by kernel_rfl) (by kernel_rfl) rfl (PO.move (v := .bool (decide (99999 < y_5.dat.recov.2))) rfl) ?_
    by_cases h_10 : 99999 < y_5.dat.recov.2
    · skip
      refine JA.takeOff 8 (b := true) rfl (by kernel_rfl) (NP.th (NP.th NP.body)) (by kernel_rfl) (by kernel_rfl) rfl rfl rfl (congrArg Value.bool (decide_eq_true h_10)) ?_
      refine JA.takeOff 9 (b := true) rfl (by kernel_rfl) (NP.th (NP.th NP.body)) (by kernel_rfl) (by kernel_rfl) rfl rfl rfl (congrArg Value.bool (decide_eq_true h_10)) ?_
      refine JA.takeOff 10 (b := true) rfl (by kernel_rfl) (NP.th (NP.th NP.body)) (by kernel_rfl) (by kernel_rfl) rfl rfl rfl (congrArg Value.bool (decide_eq_true h_10)) ?_
      refine JA.takeOff 11 (b := true) rfl (by kernel_rfl) (NP.th (NP.th NP.body)) (by kernel_rfl) (by kernel_rfl) rfl rfl rfl (congrArg Value.bool (decide_eq_true h_10)) ?_
      refine JA.takeOff 12 (b := true) rfl (by kernel_rfl) (NP.th (NP.th NP.body)) (by kernel_rfl) (by kernel_rfl) rfl rfl rfl (congrArg Value.bool (decide_eq_true h_10)) ?_
      refine JA.takeOff 13 (b := true) rfl (by kernel_rfl) (NP.th (NP.th NP.body)) (by kernel_rfl) (by kernel_rfl) rfl rfl rfl (congrArg Value.bool (decide_eq_true h_10)) ?_
      refine JA.takeOff 14 (b := true) rfl (by kernel_rfl) (NP.th (NP.th NP.body)) (by kernel_rfl) (by kernel_rfl) rfl rfl rfl (congrArg Value.bool (decide_eq_true h_10)) ?_
      refine JA.takeOff 15 (b := true) rfl (by kernel_rfl) (NP.th (NP.th NP.body)) (by kernel_rfl) (by kernel_rfl) rfl rfl rfl (congrArg Value.bool (decide_eq_true h_10)) ?_
      refine JA.takeOff 16 (b := true) rfl (by kernel_rfl) (NP.th (NP.th NP.body)) (by kernel_rfl) (by kernel_rfl) rfl rfl rfl (congrArg Value.bool (decide_eq_true h_10)) ?_
      refine JA.takeP 17 rfl (by kernel_rfl) (NP.th (NP.th NP.body)) (by kernel_rfl) (by kernel_rfl) rfl (PO.pickT (v := .bool true) (congrArg Value.bool (decide_eq_true h_10)) rfl) ?_
      refine JA.done (by kernel_rfl) ?_
      refine JQ.seq ?_
      refine JC.condT (congrArg Value.bool rfl) ?_
      refine JC.seq ?_
      refine JC.region ?_
      refine JL.ld rfl (LO.loadK 4 (vs := [.slice y_5.a y_5.l.length y_5.c, str y_5.jt, .int .i64 y_5.js]) rfl rfl Tryz.isAgg31 Tryz.sizeOf31 rfl rfl) ?_
      refine JL.op rfl (JO.store 3 (vs := [.slice y_5.a y_5.l.length y_5.c, str y_5.jt, .int .i64 y_5.js]) (cs' := [.slice y_5.a y_5.l.length y_5.c, str y_5.jt, .int .i64 y_5.js]) rfl rfl rfl rfl Tryz.sizeOf31 rfl rfl (Nat.le_of_ble_eq_true rfl) rfl) ?_
      rintro _ _ rfl
      refine JL.pure rfl (PO.assign (v := .bool false) rfl) ?_
      refine JL.nil ?_
      refine JQ.seq ?_
      refine JC.ret ?_
      refine JQ.thenRet ?_
      refine JQ.ghost (L' := [Res.rows (rdsOS y_5.a y_5.c y_5.l), rC a_7 c_8 y_5.dat.recov.1, bk b_4 31 [.slice y_5.a y_5.l.length y_5.c, str y_5.jt, .int .i64 y_5.js], bk b_3 31 [.slice y_5.a y_5.l.length y_5.c, str y_5.jt, .int .i64 y_5.js]]) (fun w hw => hw.consR (r := ⟨.slice y_5.a y_5.l.length y_5.c, 60, 3, y_5.l.length, y_5.l.flatMap encO⟩) (A := y_5.l.flatMap rdsO) [0, 0] rfl) ?_
      refine Done.two (.inl rfl) rfl (RV.cell1 (LO.loadK 2 (vs := [.slice y_5.a y_5.l.length y_5.c, str y_5.jt, .int .i64 y_5.js]) rfl rfl Tryz.isAgg31 Tryz.sizeOf31 rfl rfl) ⟨_, rfl⟩) (RV.tmp (v := .bool false) rfl) (List.sublist_append_left [Res.rows (rdsOS y_5.a y_5.c y_5.l)] [rC a_7 c_8 y_5.dat.recov.1, bk b_4 31 [.slice y_5.a y_5.l.length y_5.c, str y_5.jt, .int .i64 y_5.js], bk b_3 31 [.slice y_5.a y_5.l.length y_5.c, str y_5.jt, .int .i64 y_5.js]]) ?_
      have he := foldB_no (d := y_5.dat) (by rintro ⟨h_1, h_2⟩; first | omega | simp_all)
      rw [hy_6] at he
      exact ⟨y_5, (hy_6).trans (congrArg Prod.fst he).symm, by rw [he], rfl⟩
    · skip
      refine JA.takeOnP 8 rfl (by kernel_rfl) (NP.th (NP.th NP.body)) (by kernel_rfl) (by kernel_rfl) rfl rfl rfl (congrArg Value.bool (decide_eq_false h_10)) (PO.move (v := .int .i64 y_5.dat.recov.2) rfl) ?_
      refine JA.takeOnP 9 rfl (by kernel_rfl) (NP.th (NP.th NP.body)) (by kernel_rfl) (by kernel_rfl) rfl rfl rfl (congrArg Value.bool (decide_eq_false h_10)) (PO.fieldAddr fo31_0 rfl) ?_
      refine JA.takeOn 10 rfl (by kernel_rfl) (NP.th (NP.th NP.body)) (by kernel_rfl) (by kernel_rfl) (by kernel_rfl) rfl rfl rfl (congrArg Value.bool (decide_eq_false h_10)) (LO.load1 4 (v := .slice y_5.a y_5.l.length y_5.c) rfl rfl Tryz.isAgg28 rfl) ?_
      refine JA.takeOn 11 rfl (by kernel_rfl) (NP.th (NP.th NP.body)) (by kernel_rfl) (by kernel_rfl) (by kernel_rfl) rfl rfl rfl (congrArg Value.bool (decide_eq_false h_10)) (LO.loadK 4 (vs := [.slice y_5.a y_5.l.length y_5.c, str y_5.jt, .int .i64 y_5.js]) rfl rfl Tryz.isAgg31 Tryz.sizeOf31 rfl rfl) ?_
      refine JA.one (i := 12) (by kernel_rfl) ?_
      refine JX.opOnD rfl rfl rfl rfl (congrArg Value.bool (decide_eq_false h_10)) (JO.call [] Tryz.call49 rfl (Y_sBestN y_5 hzy (by omega) q hq) rfl (fun w hw => SeesA.cons (hw.see (i := 0) rfl) (hw.seeRows 1 rfl))) ?_
      rintro _ _ ⟨_, ⟨rfl, rfl⟩, rfl⟩
      refine ⟨by simp, ?_⟩
      refine JA.facts fun hst => ?_
      obtain ⟨hr_11, hr_11b, -⟩ := row_some 0 rfl (by omega) hst
      refine JA.takeOnP 13 rfl (by kernel_rfl) (NP.th (NP.th NP.body)) (by kernel_rfl) (by kernel_rfl) rfl rfl rfl (congrArg Value.bool (decide_eq_false h_10)) (PO.indexAddrV (i := q) Tryz.underlying28 Tryz.sizeOf60 hr_11 hr_11b rfl rfl (by omega)) ?_
      refine JA.takeOnP 14 rfl (by kernel_rfl) (NP.th (NP.th NP.body)) (by kernel_rfl) (by kernel_rfl) rfl rfl rfl (congrArg Value.bool (decide_eq_false h_10)) (PO.fieldAddrE fo60_0 hr_11 rfl) ?_
      refine JA.takeOn 15 rfl (by kernel_rfl) (NP.th (NP.th NP.body)) (by kernel_rfl) (by kernel_rfl) (by kernel_rfl) rfl rfl rfl (congrArg Value.bool (decide_eq_false h_10)) (LO.loadR1 0 (v := .int .i64 ((y_5.l.getD q o0).t.seq)) rfl rfl Tryz.isAgg3 (flat_at encO_len o0 y_5.l q 0 (by omega) (by decide))) ?_
      refine JA.takeOnP 16 rfl (by kernel_rfl) (NP.th (NP.th NP.body)) (by kernel_rfl) (by kernel_rfl) rfl rfl rfl (congrArg Value.bool (decide_eq_false h_10)) (PO.eqlI rfl rfl) ?_
      refine JA.takeP 17 rfl (by kernel_rfl) (NP.th (NP.th NP.body)) (by kernel_rfl) (by kernel_rfl) rfl (PO.pickF (v := .bool (decide (y_5.dat.recov.2 = ((y_5.l.getD q o0).t.seq)))) (congrArg Value.bool (decide_eq_false h_10)) rfl) ?_
      refine JA.done (by kernel_rfl) ?_
      refine JQ.seq ?_
      by_cases h_12 : y_5.dat.recov.2 = ((y_5.l.getD q o0).t.seq)
      · skip
        refine JC.condT (congrArg Value.bool (decide_eq_true h_12)) ?_
        refine JC.seq ?_
        refine JC.region ?_
        refine JL.ld rfl (LO.loadK 4 (vs := [.slice y_5.a y_5.l.length y_5.c, str y_5.jt, .int .i64 y_5.js]) rfl rfl Tryz.isAgg31 Tryz.sizeOf31 rfl rfl) ?_
        refine JL.op rfl (JO.store 3 (vs := [.slice y_5.a y_5.l.length y_5.c, str y_5.jt, .int .i64 y_5.js]) (cs' := [.slice y_5.a y_5.l.length y_5.c, str y_5.jt, .int .i64 y_5.js]) rfl rfl rfl rfl Tryz.sizeOf31 rfl rfl (Nat.le_of_ble_eq_true rfl) rfl) ?_
        rintro _ _ rfl
        refine JL.pure rfl (PO.assign (v := .bool false) rfl) ?_
        refine JL.nil ?_
        refine JQ.seq ?_
        refine JC.ret ?_
        refine JQ.thenRet ?_
        refine JQ.ghost (L' := [Res.rows (rdsOS y_5.a y_5.c y_5.l), rC a_7 c_8 y_5.dat.recov.1, bk b_4 31 [.slice y_5.a y_5.l.length y_5.c, str y_5.jt, .int .i64 y_5.js], bk b_3 31 [.slice y_5.a y_5.l.length y_5.c, str y_5.jt, .int .i64 y_5.js]]) (fun w hw => hw.consR (r := ⟨.slice y_5.a y_5.l.length y_5.c, 60, 3, y_5.l.length, y_5.l.flatMap encO⟩) (A := y_5.l.flatMap rdsO) [0, 0] rfl) ?_
        refine Done.two (.inl rfl) rfl (RV.cell1 (LO.loadK 2 (vs := [.slice y_5.a y_5.l.length y_5.c, str y_5.jt, .int .i64 y_5.js]) rfl rfl Tryz.isAgg31 Tryz.sizeOf31 rfl rfl) ⟨_, rfl⟩) (RV.tmp (v := .bool false) rfl) (List.sublist_append_left [Res.rows (rdsOS y_5.a y_5.c y_5.l)] [rC a_7 c_8 y_5.dat.recov.1, bk b_4 31 [.slice y_5.a y_5.l.length y_5.c, str y_5.jt, .int .i64 y_5.js], bk b_3 31 [.slice y_5.a y_5.l.length y_5.c, str y_5.jt, .int .i64 y_5.js]]) ?_
        have he := foldB_no (d := y_5.dat) (by rintro ⟨h_1, h_2⟩; first | omega | simp_all)
        rw [hy_6] at he
        exact ⟨y_5, (hy_6).trans (congrArg Prod.fst he).symm, by rw [he], rfl⟩
      · skip
        refine JC.condF (congrArg Value.bool (decide_eq_false h_12)) ?_
        refine JC.skip ?_
        refine JQ.seq ?_
        refine JC.seq ?_
        refine JC.region ?_
        refine JL.ld rfl (LO.loadK 4 (vs := [.slice y_5.a y_5.l.length y_5.c, str y_5.jt, .int .i64 y_5.js]) rfl rfl Tryz.isAgg31 Tryz.sizeOf31 rfl rfl) ?_
        refine JL.op rfl (JO.call [] Tryz.call18 rfl (Y_sClean y_5 hzy hly) rfl (fun w hw => SeesA.cons (hw.see (i := 0) rfl) (hw.seeRows 1 rfl))) ?_
        rintro _ _ ⟨_, ⟨y_13, hy_14, rfl, rfl⟩, rfl⟩
        refine JL.pure rfl (PO.fieldK (vs := [str y_13.jt, .int .i64 y_13.js]) Tryz.underlying31 rfl rfl Tryz.isAgg29 Tryz.sizeOf29 (by kernel_rfl)) ?_
        refine JL.pure rfl (PO.fieldAddr fo31_1 rfl) ?_
        refine JL.op rfl (JO.store 5 (vs := [str y_13.jt, .int .i64 y_13.js]) (cs' := [.slice y_5.a y_5.l.length y_5.c, str y_13.jt, .int .i64 y_13.js]) rfl rfl rfl rfl Tryz.sizeOf29 rfl rfl (Nat.le_of_ble_eq_true rfl) rfl) ?_
        rintro _ _ rfl
        refine JL.nil ?_
        refine JQ.seq ?_
        refine JC.seq ?_
        have hzc : y_13.dat.okz := by rw [hy_14]; exact clean_okz hzy
        have hzl : y_5.l.length = 2 := disk_two h_9
        refine JC.regionA [Res.rows (rdsD y_13), Res.row (.slice y_5.a y_5.l.length y_5.c) 60 3 y_5.l.length (y_5.l.flatMap encO), Res.rows (y_5.l.flatMap rdsO), rC a_7 c_8 y_5.dat.recov.1, bk b_4 31 [.slice none 0 0, str [], .int .i64 0], bk b_3 31 [.slice y_5.a y_5.l.length y_5.c, str y_13.jt, .int .i64 y_13.js]] 7 mixed (by simp) ?_
        refine JA.takeP 0 rfl (by kernel_rfl) (NP.th NP.body) (by kernel_rfl) (by kernel_rfl) rfl (PO.fieldAddr fo31_0 rfl) ?_
        refine JA.take 1 rfl (by kernel_rfl) (NP.th NP.body) (by kernel_rfl) (by kernel_rfl) (by kernel_rfl) rfl (LO.load1 5 (v := .slice y_5.a y_5.l.length y_5.c) rfl rfl Tryz.isAgg28 rfl) ?_
        refine JA.take 2 rfl (by kernel_rfl) (NP.th NP.body) (by kernel_rfl) (by kernel_rfl) (by kernel_rfl) rfl (LO.loadK 5 (vs := [.slice y_5.a y_5.l.length y_5.c, str y_13.jt, .int .i64 y_13.js]) rfl rfl Tryz.isAgg31 Tryz.sizeOf31 rfl rfl) ?_
        refine JA.takeP 4 rfl (by kernel_rfl) (NP.th NP.body) (by kernel_rfl) (by kernel_rfl) rfl (PO.move (v := .int .i64 y_5.dat.recov.2) rfl) ?_
        refine JA.takeP 5 rfl (by kernel_rfl) (NP.th NP.body) (by kernel_rfl) (by kernel_rfl) rfl (PO.move (v := .slice a_7 y_5.dat.recov.1.length c_8) rfl) ?_
        refine JA.takeP 6 rfl (by kernel_rfl) (NP.th NP.body) (by kernel_rfl) (by kernel_rfl) rfl (PO.build (ps := [(0, .int .i64 y_5.dat.recov.2), (1, .slice a_7 y_5.dat.recov.1.length c_8)]) (cs := [.int .i64 y_5.dat.recov.2, .slice a_7 y_5.dat.recov.1.length c_8, .bool false]) rfl (by kernel_rfl)) ?_
        refine JA.one (i := 3) (by kernel_rfl) ?_
        refine JX.op rfl rfl (JO.call [] Tryz.call71 rfl (Y_sOther (⟨y_5.a, y_5.c, y_5.l, y_13.jt, y_13.js⟩ : DX) ⟨hzy.k0, hzy.k1, hzc.k2⟩ ⟨hly.l0, hly.l1⟩ q hq (by omega)) rfl (fun w hw => SeesA.cons (hw.see (i := 1) rfl) (hw.seeRows 2 rfl))) ?_
        rintro _ _ ⟨_, ⟨rfl, rfl⟩, rfl⟩
        refine ⟨by simp, ?_⟩
        refine JA.takeP 7 rfl (by kernel_rfl) (NP.th NP.body) (by kernel_rfl) (by kernel_rfl) rfl (PO.indexAddrV (i := (1 - q)) Tryz.underlying28 Tryz.sizeOf60 hr_11 hr_11b rfl rfl (by omega)) ?_
        refine JA.one (i := 8) (by kernel_rfl) ?_
        refine JX.last rfl rfl (by decide) (by kernel_rfl) (JO.storeR 1 (vs := [.int .i64 y_5.dat.recov.2, .slice a_7 y_5.dat.recov.1.length c_8, .bool false]) (cs' := (y_5.l.set (1 - q) (⟨⟨a_7, c_8⟩, ⟨y_5.dat.recov.2, y_5.dat.recov.1, false⟩⟩ : OX)).flatMap encO) rfl rfl rfl rfl Tryz.sizeOf60 rfl rfl (by decide) (by rw [flat_length encO_len]; omega) (flat_set encO_len y_5.l (1 - q) (⟨⟨a_7, c_8⟩, ⟨y_5.dat.recov.2, y_5.dat.recov.1, false⟩⟩ : OX) (by omega))) ?_
        rintro _ _ rfl
        refine JQ.seq ?_
        refine JC.seq ?_
        refine JC.region ?_
        refine JL.ld rfl (LO.loadK 5 (vs := [.slice y_5.a y_5.l.length y_5.c, str y_13.jt, .int .i64 y_13.js]) rfl rfl Tryz.isAgg31 Tryz.sizeOf31 rfl rfl) ?_
        refine JL.op rfl (JO.store 4 (vs := [.slice y_5.a y_5.l.length y_5.c, str y_13.jt, .int .i64 y_13.js]) (cs' := [.slice y_5.a y_5.l.length y_5.c, str y_13.jt, .int .i64 y_13.js]) rfl rfl rfl rfl Tryz.sizeOf31 rfl rfl (Nat.le_of_ble_eq_true rfl) rfl) ?_
        rintro _ _ rfl
        refine JL.pure rfl (PO.assign (v := .bool true) rfl) ?_
        refine JL.nil ?_
        refine JQ.seq ?_
        refine JC.ret ?_
        have hi1 : 1 - q < y_5.l.length := by omega
        refine JQ.ghost (L' := [Res.rows ((y_5.l.take (1 - q)).flatMap rdsO), Res.rows (rdsO (y_5.l.getD (1 - q) o0)), Res.rows ((y_5.l.drop (1 - q + 1)).flatMap rdsO), Res.rows (rdsD y_13), Res.row (.slice y_5.a y_5.l.length y_5.c) 60 3 y_5.l.length ((y_5.l.set (1 - q) (⟨⟨a_7, c_8⟩, ⟨y_5.dat.recov.2, y_5.dat.recov.1, false⟩⟩ : OX)).flatMap encO), rC a_7 c_8 y_5.dat.recov.1, bk b_4 31 [.slice y_5.a y_5.l.length y_5.c, str y_13.jt, .int .i64 y_13.js], bk b_3 31 [.slice y_5.a y_5.l.length y_5.c, str y_13.jt, .int .i64 y_13.js]]) (fun w hw => hw.splitR 2 rfl (flatMap_at o0 hi1)) ?_
        refine JQ.ghost (L' := [Res.rows (rdsO (⟨⟨a_7, c_8⟩, ⟨y_5.dat.recov.2, y_5.dat.recov.1, false⟩⟩ : OX)), Res.rows ((y_5.l.take (1 - q)).flatMap rdsO), Res.rows (rdsO (y_5.l.getD (1 - q) o0)), Res.rows ((y_5.l.drop (1 - q + 1)).flatMap rdsO), Res.rows (rdsD y_13), Res.row (.slice y_5.a y_5.l.length y_5.c) 60 3 y_5.l.length ((y_5.l.set (1 - q) (⟨⟨a_7, c_8⟩, ⟨y_5.dat.recov.2, y_5.dat.recov.1, false⟩⟩ : OX)).flatMap encO), bk b_4 31 [.slice y_5.a y_5.l.length y_5.c, str y_13.jt, .int .i64 y_13.js], bk b_3 31 [.slice y_5.a y_5.l.length y_5.c, str y_13.jt, .int .i64 y_13.js]]) (fun w hw => hw.closeR (A := rdsO (⟨⟨a_7, c_8⟩, ⟨y_5.dat.recov.2, y_5.dat.recov.1, false⟩⟩ : OX)) [5] rfl) ?_
        refine JQ.ghost (L' := [Res.rows ((y_5.l.set (1 - q) (⟨⟨a_7, c_8⟩, ⟨y_5.dat.recov.2, y_5.dat.recov.1, false⟩⟩ : OX)).flatMap rdsO), Res.rows (rdsO (y_5.l.getD (1 - q) o0)), Res.rows (rdsD y_13), Res.row (.slice y_5.a y_5.l.length y_5.c) 60 3 y_5.l.length ((y_5.l.set (1 - q) (⟨⟨a_7, c_8⟩, ⟨y_5.dat.recov.2, y_5.dat.recov.1, false⟩⟩ : OX)).flatMap encO), bk b_4 31 [.slice y_5.a y_5.l.length y_5.c, str y_13.jt, .int .i64 y_13.js], bk b_3 31 [.slice y_5.a y_5.l.length y_5.c, str y_13.jt, .int .i64 y_13.js]]) (fun w hw => hw.joinR [1, 0, 1] rfl (flatMap_setAt hi1)) ?_
        refine JQ.ghost (L' := [Res.rows ((y_5.l.set (1 - q) (⟨⟨a_7, c_8⟩, ⟨y_5.dat.recov.2, y_5.dat.recov.1, false⟩⟩ : OX)).flatMap rdsO), Res.rows (rdsO (y_5.l.getD (1 - q) o0)), Res.rows (rdsD y_13), Res.row (.slice y_5.a ((y_5.l.set (1 - q) (⟨⟨a_7, c_8⟩, ⟨y_5.dat.recov.2, y_5.dat.recov.1, false⟩⟩ : OX)).length) y_5.c) 60 3 ((y_5.l.set (1 - q) (⟨⟨a_7, c_8⟩, ⟨y_5.dat.recov.2, y_5.dat.recov.1, false⟩⟩ : OX)).length) ((y_5.l.set (1 - q) (⟨⟨a_7, c_8⟩, ⟨y_5.dat.recov.2, y_5.dat.recov.1, false⟩⟩ : OX)).flatMap encO), bk b_4 31 [.slice y_5.a y_5.l.length y_5.c, str y_13.jt, .int .i64 y_13.js], bk b_3 31 [.slice y_5.a y_5.l.length y_5.c, str y_13.jt, .int .i64 y_13.js]]) (fun w hw => hw.eqL (by simp only [List.length_set])) ?_
        refine JQ.ghost (L' := [Res.rows (rdsOS y_5.a y_5.c (y_5.l.set (1 - q) (⟨⟨a_7, c_8⟩, ⟨y_5.dat.recov.2, y_5.dat.recov.1, false⟩⟩ : OX))), Res.rows (rdsO (y_5.l.getD (1 - q) o0)), Res.rows (rdsD y_13), bk b_4 31 [.slice y_5.a y_5.l.length y_5.c, str y_13.jt, .int .i64 y_13.js], bk b_3 31 [.slice y_5.a y_5.l.length y_5.c, str y_13.jt, .int .i64 y_13.js]]) (fun w hw => hw.consR (r := ⟨.slice y_5.a ((y_5.l.set (1 - q) (⟨⟨a_7, c_8⟩, ⟨y_5.dat.recov.2, y_5.dat.recov.1, false⟩⟩ : OX)).length) y_5.c, 60, 3, (y_5.l.set (1 - q) (⟨⟨a_7, c_8⟩, ⟨y_5.dat.recov.2, y_5.dat.recov.1, false⟩⟩ : OX)).length, (y_5.l.set (1 - q) (⟨⟨a_7, c_8⟩, ⟨y_5.dat.recov.2, y_5.dat.recov.1, false⟩⟩ : OX)).flatMap encO⟩) (A := (y_5.l.set (1 - q) (⟨⟨a_7, c_8⟩, ⟨y_5.dat.recov.2, y_5.dat.recov.1, false⟩⟩ : OX)).flatMap rdsO) [3, 0] rfl) ?_
        refine Done.two (.inl rfl) rfl (RV.cell1 (LO.loadK 3 (vs := [.slice y_5.a y_5.l.length y_5.c, str y_13.jt, .int .i64 y_13.js]) rfl rfl Tryz.isAgg31 Tryz.sizeOf31 rfl rfl) ⟨_, rfl⟩) (RV.tmp (v := .bool true) rfl) (List.sublist_append_left [Res.rows (rdsOS y_5.a y_5.c (y_5.l.set (1 - q) (⟨⟨a_7, c_8⟩, ⟨y_5.dat.recov.2, y_5.dat.recov.1, false⟩⟩ : OX)))] [Res.rows (rdsO (y_5.l.getD (1 - q) o0)), Res.rows (rdsD y_13), bk b_4 31 [.slice y_5.a y_5.l.length y_5.c, str y_13.jt, .int .i64 y_13.js], bk b_3 31 [.slice y_5.a y_5.l.length y_5.c, str y_13.jt, .int .i64 y_13.js]]) ?_
        have he := foldB_yes (d := y_5.dat) ⟨h_9, by omega, by omega⟩
        have hc := hy_14
        rw [DD.clean, if_pos h_9] at hc
        have hf := (congrArg Prod.fst he).symm
        refine ⟨(⟨y_5.a, y_5.c, y_5.l.set (1 - q) (⟨⟨a_7, c_8⟩, ⟨y_5.dat.recov.2, y_5.dat.recov.1, false⟩⟩ : OX), y_13.jt, y_13.js⟩ : DX), ?_, by simp only [← hy_6, he, List.length_set], rfl⟩
        rw [← hy_6, he]
        exact fold_dat rfl (congrArg DD.jt hc) (congrArg DD.js hc) hq rfl
  · skip
    refine JA.takeOff 4 (b := true) rfl (by kernel_rfl) (NP.th (NP.th NP.body)) (by kernel_rfl) (by kernel_rfl) rfl rfl rfl (congrArg Value.bool (congrArg Bool.not h_9)) ?_
    refine JA.takeOff 5 (b := true) rfl (by kernel_rfl) (NP.th (NP.th NP.body)) (by kernel_rfl) (by kernel_rfl) rfl rfl rfl (congrArg Value.bool (congrArg Bool.not h_9)) ?_
    refine JA.takeP 6 rfl (by kernel_rfl) (NP.th (NP.th NP.body)) (by kernel_rfl) (by kernel_rfl) rfl (PO.pickT (v := .bool true) (congrArg Value.bool (congrArg Bool.not h_9)) rfl) ?_
    refine JA.takeP 7 rfl (by kernel_rfl) (NP.th (NP.th NP.body)) (by kernel_rfl) (by kernel_rfl) rfl (PO.move (v := .bool true) rfl) ?_
    refine JA.takeOff 8 (b := true) rfl (by kernel_rfl) (NP.th (NP.th NP.body)) (by kernel_rfl) (by kernel_rfl) rfl rfl rfl (congrArg Value.bool rfl) ?_
    refine JA.takeOff 9 (b := true) rfl (by kernel_rfl) (NP.th (NP.th NP.body)) (by kernel_rfl) (by kernel_rfl) rfl rfl rfl (congrArg Value.bool rfl) ?_
    refine JA.takeOff 10 (b := true) rfl (by kernel_rfl) (NP.th (NP.th NP.body)) (by kernel_rfl) (by kernel_rfl) rfl rfl rfl (congrArg Value.bool rfl) ?_
    refine JA.takeOff 11 (b := true) rfl (by kernel_rfl) (NP.th (NP.th NP.body)) (by kernel_rfl) (by kernel_rfl) rfl rfl rfl (congrArg Value.bool rfl) ?_
    refine JA.takeOff 12 (b := true) rfl (by kernel_rfl) (NP.th (NP.th NP.body)) (by kernel_rfl) (by kernel_rfl) rfl rfl rfl (congrArg Value.bool rfl) ?_
    refine JA.takeOff 13 (b := true) rfl (by kernel_rfl) (NP.th (NP.th NP.body)) (by kernel_rfl) (by kernel_rfl) rfl rfl rfl (congrArg Value.bool rfl) ?_
    refine JA.takeOff 14 (b := true) rfl (by kernel_rfl) (NP.th (NP.th NP.body)) (by kernel_rfl) (by kernel_rfl) rfl rfl rfl (congrArg Value.bool rfl) ?_
    refine JA.takeOff 15 (b := true) rfl (by kernel_rfl) (NP.th (NP.th NP.body)) (by kernel_rfl) (by kernel_rfl) rfl rfl rfl (congrArg Value.bool rfl) ?_
    refine JA.takeOff 16 (b := true) rfl (by kernel_rfl) (NP.th (NP.th NP.body)) (by kernel_rfl) (by kernel_rfl) rfl rfl rfl (congrArg Value.bool rfl) ?_
    refine JA.takeP 17 rfl (by kernel_rfl) (NP.th (NP.th NP.body)) (by kernel_rfl) (by kernel_rfl) rfl (PO.pickT (v := .bool true) (congrArg Value.bool rfl) rfl) ?_
    refine JA.done (by kernel_rfl) ?_
    refine JQ.seq ?_
    refine JC.condT (congrArg Value.bool rfl) ?_
    refine JC.seq ?_
    refine JC.region ?_
    refine JL.ld rfl (LO.loadK 4 (vs := [.slice y_5.a y_5.l.length y_5.c, str y_5.jt, .int .i64 y_5.js]) rfl rfl Tryz.isAgg31 Tryz.sizeOf31 rfl rfl) ?_
    refine JL.op rfl (JO.store 3 (vs := [.slice y_5.a y_5.l.length y_5.c, str y_5.jt, .int .i64 y_5.js]) (cs' := [.slice y_5.a y_5.l.length y_5.c, str y_5.jt, .int .i64 y_5.js]) rfl rfl rfl rfl Tryz.sizeOf31 rfl rfl (Nat.le_of_ble_eq_true rfl) rfl) ?_
    rintro _ _ rfl
    refine JL.pure rfl (PO.assign (v := .bool false) rfl) ?_
    refine JL.nil ?_
    refine JQ.seq ?_
    refine JC.ret ?_
    refine JQ.thenRet ?_
    refine JQ.ghost (L' := [Res.rows (rdsOS y_5.a y_5.c y_5.l), rC a_7 c_8 y_5.dat.recov.1, bk b_4 31 [.slice y_5.a y_5.l.length y_5.c, str y_5.jt, .int .i64 y_5.js], bk b_3 31 [.slice y_5.a y_5.l.length y_5.c, str y_5.jt, .int .i64 y_5.js]]) (fun w hw => hw.consR (r := ⟨.slice y_5.a y_5.l.length y_5.c, 60, 3, y_5.l.length, y_5.l.flatMap encO⟩) (A := y_5.l.flatMap rdsO) [0, 0] rfl) ?_
    refine Done.two (.inl rfl) rfl (RV.cell1 (LO.loadK 2 (vs := [.slice y_5.a y_5.l.length y_5.c, str y_5.jt, .int .i64 y_5.js]) rfl rfl Tryz.isAgg31 Tryz.sizeOf31 rfl rfl) ⟨_, rfl⟩) (RV.tmp (v := .bool false) rfl) (List.sublist_append_left [Res.rows (rdsOS y_5.a y_5.c y_5.l)] [rC a_7 c_8 y_5.dat.recov.1, bk b_4 31 [.slice y_5.a y_5.l.length y_5.c, str y_5.jt, .int .i64 y_5.js], bk b_3 31 [.slice y_5.a y_5.l.length y_5.c, str y_5.jt, .int .i64 y_5.js]]) ?_
    have he := foldB_no (d := y_5.dat) (by rintro ⟨h_1, h_2⟩; first | omega | simp_all)
    rw [hy_6] at he
    exact ⟨y_5, (hy_6).trans (congrArg Prod.fst he).symm, by rw [he], rfl⟩

end Go.Proofs.YtjncpgcccgdeiaaGreatDoor
