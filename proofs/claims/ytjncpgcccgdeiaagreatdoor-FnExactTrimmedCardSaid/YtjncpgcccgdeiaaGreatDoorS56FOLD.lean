/-
  Texts of the walk, joined: what each one proves stands at its theorems.
-/
import Derived.Test.YtjncpgcccgdeiaaGreatDoorS40DEEP
import Derived.Test.YtjncpgcccgdeiaaGreatDoorDatM
import Derived.Test.YtjncpgcccgdeiaaGreatDoorS52SPLIT
import Derived.Test.YtjncpgcccgdeiaaGreatDoorDatT
set_option linter.unusedSimpArgs false
set_option linter.unusedVariables false
set_option linter.unnecessarySimpa false
namespace Go.Proofs.YtjncpgcccgdeiaaGreatDoor
open Go Go.RowKit
attribute [local irreducible] JL JC JQ JO LO PO JA JX Ct

theorem Z_cloneO (a : Option Addr) (c : Nat) (s : List OX) (hn : s.length ≤ 1000000000000) :
    Ct Tryz.prog 109 [.slice a s.length c] [] (fun w_ => Sees w_ (.slice a s.length c) 3 s.length (s.flatMap encO)) (fun v A' => ∃ a' c', v = .slice a' s.length c' ∧ A' = [.row (.slice a' s.length c') 60 3 s.length (s.flatMap encO)]) := by
  refine Ct.intro Tryz.func109 rfl Tryz.ntmps109 (Nat.le_of_ble_eq_true rfl) fun w0 hpre => ?_
  have hs_a : Sees w0 _ _ _ _ := hpre
  refine JC.seq ?_
  refine JC.region ?_
  refine JL.pure rfl (PO.assign (v := .slice none 0 0) rfl) ?_
  refine JL.nil ?_
  refine JQ.seq ?_
  refine JC.seq ?_
  refine JC.seq ?_
  refine JC.region ?_
  refine JL.pure rfl (PO.move (v := .slice a s.length c) rfl) ?_
  refine JL.pure rfl (PO.eqNil Tryz.underlying28 rfl rfl) ?_
  refine JL.nil ?_
  refine JQ.seq ?_
  rcases Bool.eq_false_or_eq_true (a.isNone) with h_1 | h_1
  · skip
    refine JC.condT (congrArg Value.bool h_1) ?_
    refine JC.seq ?_
    refine JC.region ?_
    refine JL.pure rfl (PO.assign (v := .slice none 0 0) rfl) ?_
    refine JL.nil ?_
    refine JQ.seq ?_
    refine JC.ret ?_
    refine JQ.thenRet ?_
    refine JQ.nilrow 60 3 ?_
    refine Done.one (.inl rfl) rfl (RV.tmp (v := .slice none 0 0) rfl) (List.Sublist.refl _) ?_
    have ha : a = none := by simpa using h_1
    have hz : s.length = 0 := sees_none (ha ▸ hpre)
    have hs0 : s = [] := List.length_eq_zero_iff.1 hz
    subst hs0
    exact ⟨none, 0, rfl, rfl⟩
  · skip
    refine JC.condF (congrArg Value.bool h_1) ?_
    refine JC.skip ?_
    refine JQ.seq ?_
    refine JC.seq ?_
    refine JC.region ?_
    refine JL.op rfl (JO.buildSlice (ps := []) (cur := #[]) Tryz.underlying28 Tryz.sizeOf60 Tryz.zeroValue60 rfl (by kernel_rfl) (by decide) (by decide)) ?_
    rintro _ _ ⟨a_2, rfl, rfl⟩
    refine JL.pure rfl (PO.move (v := .slice a s.length c) rfl) ?_
    refine JL.op rfl (JO.append' 0 (q := s.length) (news := s.flatMap encO) (n' := s.length) (cs' := s.flatMap encO) rfl Tryz.underlying28 Tryz.underlying28 Tryz.typeInfo60 rfl (by' := 40) rfl rfl rfl rfl rfl (fun w hw => Src.sees (hw.seeOut_ hs_a (fun _ _ => List.not_mem_nil)) (oneO _)) (by (try simp only [List.length_append, List.length_cons, List.length_nil, List.length_take, List.length_drop]); omega) (by (try simp only [List.length_append, List.length_cons, List.length_nil, List.length_take, List.length_drop]); omega) (by (try simp only [List.length_take, List.length_drop]); first | rfl | omega) rfl) ?_
    rintro _ _ ⟨a_3, c_4, rfl, rfl⟩
    refine JL.pure rfl (PO.assign (v := .slice a_3 s.length c_4) rfl) ?_
    refine JL.nil ?_
    refine JQ.seq ?_
    refine JC.ret ?_
    refine Done.one (.inl rfl) rfl (RV.tmp (v := .slice a_3 s.length c_4) rfl) (List.Sublist.refl _) ?_
    exact ⟨_, _, rfl, rfl⟩

set_option maxRecDepth 4000 in
set_option maxHeartbeats 1000000 in
theorem Z_implDiskclone (d : DX) (hl : d.dat.lim 1000000000) :
    Ct Tryz.prog 62 [.agg #[.slice d.a d.l.length d.c, str d.jt, .int .i64 d.js]] [] (fun w => SeesA w (rdsD d)) (fun v A' => ∃ y : DX, y.dat = d.dat ∧ v = .agg #[.slice y.a y.l.length y.c, str y.jt, .int .i64 y.js] ∧ A' = [.rows (rdsD y)]) := by
  refine Ct.intro Tryz.func62 rfl Tryz.ntmps62 (Nat.le_of_ble_eq_true rfl) fun w0 hpre => ?_
  have hs_1 : Sees w0 (.slice d.a d.l.length d.c) 3 d.l.length (d.l.flatMap encO) := (hpre).head
  have hi_2 : SeesA w0 (d.l.flatMap rdsO) := (hpre).tail
  have hlm : d.l.length ≤ 1000000000 ∧ ∀ q ∈ d.l, q.t.lim 1000000000 := ⟨by have := hl.l0; simpa only [DX.dat, List.length_map] using this, fun q hq => hl.l1 _ (List.mem_map_of_mem hq)⟩
  have hlm0 := hlm.1
  refine JC.seq ?_
  refine JC.region ?_
  refine JL.op rfl (JO.box (cs := [.slice d.a d.l.length d.c, str d.jt, .int .i64 d.js]) rfl rfl) ?_
  rintro _ _ ⟨b_3, rfl, rfl⟩
  refine JL.op rfl (JO.alloc (z := .agg #[.slice none 0 0, str [], .int .i64 0]) (cs := [.slice none 0 0, str [], .int .i64 0]) Tryz.zeroValue31 rfl) ?_
  rintro _ _ ⟨b_4, rfl, rfl⟩
  refine JL.nil ?_
  refine JQ.seq ?_
  refine JC.seq ?_
  refine JC.regionA [bk b_4 31 [.slice none 0 0, str [], .int .i64 0], bk b_3 31 [.slice d.a d.l.length d.c, str d.jt, .int .i64 d.js]] 7 mixed (by simp) ?_
  refine JA.takeP 0 rfl (by kernel_rfl) (NP.th NP.body) (by kernel_rfl) (by kernel_rfl) rfl (PO.fieldAddr fo31_0 rfl) ?_
  refine JA.take 1 rfl (by kernel_rfl) (NP.th NP.body) (by kernel_rfl) (by kernel_rfl) (by kernel_rfl) rfl (LO.load1 1 (v := .slice d.a d.l.length d.c) rfl rfl Tryz.isAgg28 rfl) ?_
  refine JA.takeP 3 rfl (by kernel_rfl) (NP.th NP.body) (by kernel_rfl) (by kernel_rfl) rfl (PO.fieldAddr fo31_1 rfl) ?_
  refine JA.take 4 rfl (by kernel_rfl) (NP.th NP.body) (by kernel_rfl) (by kernel_rfl) (by kernel_rfl) rfl (LO.loadK 1 (vs := [str d.jt, .int .i64 d.js]) rfl rfl Tryz.isAgg29 Tryz.sizeOf29 rfl rfl) ?_
  refine JA.two (i := 2) (j := 6) (by kernel_rfl) ?_ ?_
  · skip
    refine JX.op rfl rfl (JO.call [] Tryz.call109 rfl (Z_cloneO d.a d.c d.l (by omega)) rfl (fun w hw => hw.seeOut_ hs_1 (fun _ _ => List.not_mem_nil))) ?_
    rintro _ _ ⟨_, ⟨a_12, c_13, rfl, rfl⟩, rfl⟩
    refine ⟨by simp, ?_⟩
    refine JA.takeP 5 rfl (by kernel_rfl) (NP.th NP.body) (by kernel_rfl) (by kernel_rfl) rfl (PO.build (ps := [(0, .slice a_12 d.l.length c_13), (1, .agg #[str d.jt, .int .i64 d.js])]) (cs := [.slice a_12 d.l.length c_13, str d.jt, .int .i64 d.js]) rfl (by kernel_rfl)) ?_
    refine JA.one (i := 6) (by kernel_rfl) ?_
    refine JX.op rfl rfl (JO.alloc (z := .agg #[.slice none 0 0, str [], .int .i64 0]) (cs := [.slice none 0 0, str [], .int .i64 0]) Tryz.zeroValue31 rfl) ?_
    rintro _ _ ⟨b_15, rfl, rfl⟩
    refine ⟨by simp, ?_⟩
    refine JA.one (i := 7) (by kernel_rfl) ?_
    refine JX.last rfl rfl (by decide) (by kernel_rfl) (JO.store 0 (vs := [.slice a_12 d.l.length c_13, str d.jt, .int .i64 d.js]) (cs' := [.slice a_12 d.l.length c_13, str d.jt, .int .i64 d.js]) rfl rfl rfl rfl Tryz.sizeOf31 rfl rfl (Nat.le_of_ble_eq_true rfl) rfl) ?_
    rintro _ _ rfl
    refine JQ.seq ?_
    refine JC.seq ?_
    refine JC.seq ?_
    refine JC.region ?_
    refine JL.pure rfl (PO.fieldAddr fo31_0 rfl) ?_
    refine JL.ld rfl (LO.load1 0 (v := .slice a_12 d.l.length c_13) rfl rfl Tryz.isAgg28 rfl) ?_
    refine JL.pure rfl (PO.lenV Tryz.underlying28 rfl) ?_
    refine JL.pure rfl (PO.move (v := .int .i64 0) rfl) ?_
    refine JL.nil ?_
    refine JQ.seq ?_
    refine JC.block ?_
    refine JC.ghost (L' := [Res.rows (([] : List OX).flatMap rdsO), Res.row (.slice a_12 d.l.length c_13) 60 3 d.l.length (d.l.flatMap encO), bk b_15 31 [.slice a_12 d.l.length c_13, str d.jt, .int .i64 d.js], bk b_4 31 [.slice none 0 0, str [], .int .i64 0], bk b_3 31 [.slice d.a d.l.length d.c, str d.jt, .int .i64 d.js]]) (fun w hw => hw.nilR (α := OX) (f := rdsO) [1] (B := [Res.row (.slice a_12 d.l.length c_13) 60 3 d.l.length (d.l.flatMap encO)]) (F := [bk b_15 31 [.slice a_12 d.l.length c_13, str d.jt, .int .i64 d.js], bk b_4 31 [.slice none 0 0, str [], .int .i64 0], bk b_3 31 [.slice d.a d.l.length d.c, str d.jt, .int .i64 d.js]]) rfl) ?_
    refine JC.loop (fun k_ e_ L_ => ∃ j : Nat, ∃ y : List OX, (j ≤ d.l.length) ∧ (y.map OX.t = (d.l.take j).map OX.t) ∧ (y.length = j) ∧ e_ 2 = .pointer (some ⟨b_4, 0, none⟩) ∧ e_ 3 = .pointer (some ⟨b_15, 0, none⟩) ∧ e_ 13 = .int .i64 ((d.l.length : Nat) : Int) ∧ e_ 14 = .int .i64 ((j : Nat) : Int) ∧ L_ = [Res.rows (y.flatMap rdsO), Res.row (.slice a_12 d.l.length c_13) 60 3 d.l.length ((y ++ d.l.drop j).flatMap encO), bk b_15 31 [.slice a_12 d.l.length c_13, str d.jt, .int .i64 d.js], bk b_4 31 [.slice none 0 0, str [], .int .i64 0], bk b_3 31 [.slice d.a d.l.length d.c, str d.jt, .int .i64 d.js]] ∧ k_ = d.l.length - j) _ ⟨0, [], by omega, rfl, rfl, rfl, rfl, rfl, rfl, rfl, rfl⟩ ?_
    rintro _ e_16 _ ⟨j, y, hj, hd, hyl, he_17, he_18, he_19, he_20, rfl, rfl⟩
    refine JC.seq ?_
    refine JC.region ?_
    refine JL.pure rfl (PO.lss he_20 he_19) ?_
    refine JL.nil ?_
    refine JQ.seq ?_
    refine JC.seq ?_
    by_cases h_21 : ((j : Nat) : Int) < ((d.l.length : Nat) : Int)
    · skip
      have hlt : j < d.l.length := by omega
      refine JC.ghost (L' := [Res.row (.slice a_12 d.l.length c_13) 60 3 d.l.length (mid encO y [.int .i64 ((d.l.getD j o0).t.seq), .slice ((d.l.getD j o0).x.a0) ((d.l.getD j o0).t.cells.length) ((d.l.getD j o0).x.c0), .bool ((d.l.getD j o0).t.whole)] (d.l.drop (j + 1))), Res.rows (y.flatMap rdsO), bk b_15 31 [.slice a_12 d.l.length c_13, str d.jt, .int .i64 d.js], bk b_4 31 [.slice none 0 0, str [], .int .i64 0], bk b_3 31 [.slice d.a d.l.length d.c, str d.jt, .int .i64 d.js]]) (fun w hw => hw.midR 1 rfl o0 hlt) ?_
      have hi_22 := SeesA.elem hi_2 o0 hlt
      have hs_23 := seesO hi_22
      obtain ⟨hb_24⟩ : (d.l.getD j o0).t.lim 1000000000 := (hlm.2 _ (getD_mem (show j < d.l.length by omega)))
      refine JC.condT (congrArg Value.bool (decide_eq_true h_21)) ?_
      refine JC.skip ?_
      refine JQ.seq ?_
      refine JC.seq ?_
      refine JC.block ?_
      refine JC.seq ?_
      refine JC.region ?_
      refine JL.pure rfl (PO.move (v := .int .i64 ((j : Nat) : Int)) he_20) ?_
      refine JL.pure rfl (PO.assign (v := .int .i64 ((j : Nat) : Int)) rfl) ?_
      refine JL.nil ?_
      refine JQ.seq ?_
      refine JC.regionA [Res.row (.slice a_12 d.l.length c_13) 60 3 d.l.length (mid encO y [.int .i64 ((d.l.getD j o0).t.seq), .slice ((d.l.getD j o0).x.a0) ((d.l.getD j o0).t.cells.length) ((d.l.getD j o0).x.c0), .bool ((d.l.getD j o0).t.whole)] (d.l.drop (j + 1))), Res.rows (y.flatMap rdsO), bk b_15 31 [.slice a_12 d.l.length c_13, str d.jt, .int .i64 d.js], bk b_4 31 [.slice none 0 0, str [], .int .i64 0], bk b_3 31 [.slice d.a d.l.length d.c, str d.jt, .int .i64 d.js]] 10 mixed (by simp) ?_
      refine JA.takeP 0 rfl (by kernel_rfl) (NP.bl (NP.th (NP.th (NP.bl (NP.th NP.body))))) (by kernel_rfl) (by kernel_rfl) rfl (PO.fieldAddr fo31_0 he_18) ?_
      refine JA.take 1 rfl (by kernel_rfl) (NP.bl (NP.th (NP.th (NP.bl (NP.th NP.body))))) (by kernel_rfl) (by kernel_rfl) (by kernel_rfl) rfl (LO.load1 2 (v := .slice a_12 d.l.length c_13) rfl rfl Tryz.isAgg28 rfl) ?_
      refine JA.takeP 2 rfl (by kernel_rfl) (NP.bl (NP.th (NP.th (NP.bl (NP.th NP.body))))) (by kernel_rfl) (by kernel_rfl) rfl (PO.move (v := .int .i64 ((j : Nat) : Int)) rfl) ?_
      refine JA.takeP 3 rfl (by kernel_rfl) (NP.bl (NP.th (NP.th (NP.bl (NP.th NP.body))))) (by kernel_rfl) (by kernel_rfl) rfl (PO.fieldAddr fo31_0 he_18) ?_
      refine JA.take 4 rfl (by kernel_rfl) (NP.bl (NP.th (NP.th (NP.bl (NP.th NP.body))))) (by kernel_rfl) (by kernel_rfl) (by kernel_rfl) rfl (LO.load1 2 (v := .slice a_12 d.l.length c_13) rfl rfl Tryz.isAgg28 rfl) ?_
      refine JA.takeP 5 rfl (by kernel_rfl) (NP.bl (NP.th (NP.th (NP.bl (NP.th NP.body))))) (by kernel_rfl) (by kernel_rfl) rfl (PO.move (v := .int .i64 ((j : Nat) : Int)) rfl) ?_
      refine JA.facts fun hst => ?_
      obtain ⟨hr_25, hr_25b, -⟩ := row_some 0 rfl (by omega) hst
      refine JA.takeP 6 rfl (by kernel_rfl) (NP.bl (NP.th (NP.th (NP.bl (NP.th NP.body))))) (by kernel_rfl) (by kernel_rfl) rfl (PO.indexAddrV (i := j) Tryz.underlying28 Tryz.sizeOf60 hr_25 hr_25b rfl rfl (by omega)) ?_
      refine JA.takeP 7 rfl (by kernel_rfl) (NP.bl (NP.th (NP.th (NP.bl (NP.th NP.body))))) (by kernel_rfl) (by kernel_rfl) rfl (PO.fieldAddrE fo60_1 hr_25 rfl) ?_
      refine JA.take 8 rfl (by kernel_rfl) (NP.bl (NP.th (NP.th (NP.bl (NP.th NP.body))))) (by kernel_rfl) (by kernel_rfl) (by kernel_rfl) rfl (LO.loadR1 0 (v := .slice ((d.l.getD j o0).x.a0) ((d.l.getD j o0).t.cells.length) ((d.l.getD j o0).x.c0)) rfl rfl Tryz.isAgg49 (mid_at encO_len rfl hyl 1 (by decide))) ?_
      refine JA.one (i := 9) (by kernel_rfl) ?_
      refine JX.op rfl rfl (JO.call [] Tryz.call74 rfl (C_cloneC (d.l.getD j o0).x.a0 ((d.l.getD j o0).x.c0) ((d.l.getD j o0).t.cells) (by omega)) rfl (fun w hw => hw.seeOut_ hs_23 (fun _ _ => List.not_mem_nil))) ?_
      rintro _ _ ⟨_, ⟨a_28, c_29, rfl, rfl⟩, rfl⟩
      refine ⟨by simp, ?_⟩
      refine JA.takeP 10 rfl (by kernel_rfl) (NP.bl (NP.th (NP.th (NP.bl (NP.th NP.body))))) (by kernel_rfl) (by kernel_rfl) rfl (PO.indexAddrV (i := j) Tryz.underlying28 Tryz.sizeOf60 hr_25 hr_25b rfl rfl (by omega)) ?_
      refine JA.takeP 11 rfl (by kernel_rfl) (NP.bl (NP.th (NP.th (NP.bl (NP.th NP.body))))) (by kernel_rfl) (by kernel_rfl) rfl (PO.fieldAddrE fo60_1 hr_25 rfl) ?_
      refine JA.one (i := 12) (by kernel_rfl) ?_
      refine JX.last rfl rfl (by decide) (by kernel_rfl) (JO.storeR 1 (vs := [.slice a_28 (((d.l.getD j o0).t.cells).length) c_29]) (cs' := mid encO y [.int .i64 ((d.l.getD j o0).t.seq), .slice a_28 (((d.l.getD j o0).t.cells).length) c_29, .bool ((d.l.getD j o0).t.whole)] (d.l.drop (j + 1))) rfl rfl rfl rfl Tryz.sizeOf49 rfl rfl (by decide) (mid_fit encO_len rfl hyl (f := 1) (lb rfl)) (mid_set encO_len rfl hyl 1 [.slice a_28 (((d.l.getD j o0).t.cells).length) c_29] (lb rfl))) ?_
      rintro _ _ rfl
      refine JQ.blockN ?_
      refine JQ.seq ?_
      refine JC.region ?_
      refine JL.pure rfl (PO.add (c := ((j + 1 : Nat) : Int)) he_20 rfl (wr (by omega))) ?_
      refine JL.pure rfl (PO.move (v := .int .i64 ((j + 1 : Nat) : Int)) rfl) ?_
      refine JL.nil ?_
      refine JQ.ghost (L' := [Res.rows (rdsO (⟨⟨a_28, c_29⟩, (d.l.getD j o0).t⟩ : OX)), Res.row (.slice a_12 d.l.length c_13) 60 3 d.l.length (mid encO y [.int .i64 ((d.l.getD j o0).t.seq), .slice a_28 (((d.l.getD j o0).t.cells).length) c_29, .bool ((d.l.getD j o0).t.whole)] (d.l.drop (j + 1))), Res.rows (y.flatMap rdsO), bk b_15 31 [.slice a_12 d.l.length c_13, str d.jt, .int .i64 d.js], bk b_4 31 [.slice none 0 0, str [], .int .i64 0], bk b_3 31 [.slice d.a d.l.length d.c, str d.jt, .int .i64 d.js]]) (fun w hw => hw.closeR (A := rdsO (⟨⟨a_28, c_29⟩, (d.l.getD j o0).t⟩ : OX)) [0] rfl) ?_
      refine JQ.ghost (L' := [Res.rows ((y ++ [(⟨⟨a_28, c_29⟩, (d.l.getD j o0).t⟩ : OX)]).flatMap rdsO), Res.row (.slice a_12 d.l.length c_13) 60 3 d.l.length (((y ++ [(⟨⟨a_28, c_29⟩, (d.l.getD j o0).t⟩ : OX)]) ++ d.l.drop (j + 1)).flatMap encO), bk b_15 31 [.slice a_12 d.l.length c_13, str d.jt, .int .i64 d.js], bk b_4 31 [.slice none 0 0, str [], .int .i64 0], bk b_3 31 [.slice d.a d.l.length d.c, str d.jt, .int .i64 d.js]]) (fun w hw => St.addR [2, 1] rfl flatMap_snoc (hw.unmid 1 rfl (q := (⟨⟨a_28, c_29⟩, (d.l.getD j o0).t⟩ : OX)) rfl)) ?_
      refine JQ.pick [0, 0, 0, 0, 0] (A := [Res.rows ((y ++ [(⟨⟨a_28, c_29⟩, (d.l.getD j o0).t⟩ : OX)]).flatMap rdsO), Res.row (.slice a_12 d.l.length c_13) 60 3 d.l.length (((y ++ [(⟨⟨a_28, c_29⟩, (d.l.getD j o0).t⟩ : OX)]) ++ d.l.drop (j + 1)).flatMap encO), bk b_15 31 [.slice a_12 d.l.length c_13, str d.jt, .int .i64 d.js], bk b_4 31 [.slice none 0 0, str [], .int .i64 0], bk b_3 31 [.slice d.a d.l.length d.c, str d.jt, .int .i64 d.js]]) rfl ?_
      refine JQ.again (d.l.length - (j + 1)) (by omega) ⟨j + 1, (y ++ [(⟨⟨a_28, c_29⟩, (d.l.getD j o0).t⟩ : OX)]), by omega, (map_take_succ o0 hd hlt rfl), (by rw [List.length_append, hyl]; rfl), he_17, he_18, he_19, rfl, rfl, rfl⟩
    · skip
      refine JC.condF (congrArg Value.bool (decide_eq_false h_21)) ?_
      refine JC.exit ?_
      refine JQ.thenExit ?_
      refine JQ.thenExit ?_
      refine JQ.blockE ?_
      refine JQ.seq ?_
      refine JC.seq ?_
      refine JC.region ?_
      refine JL.ld rfl (LO.loadK 2 (vs := [.slice a_12 d.l.length c_13, str d.jt, .int .i64 d.js]) rfl he_18 Tryz.isAgg31 Tryz.sizeOf31 rfl rfl) ?_
      refine JL.op rfl (JO.store 3 (vs := [.slice a_12 d.l.length c_13, str d.jt, .int .i64 d.js]) (cs' := [.slice a_12 d.l.length c_13, str d.jt, .int .i64 d.js]) rfl he_17 rfl rfl Tryz.sizeOf31 rfl rfl (Nat.le_of_ble_eq_true rfl) rfl) ?_
      rintro _ _ rfl
      refine JL.nil ?_
      refine JQ.seq ?_
      refine JC.ret ?_
      have hsl : d.l.length = y.length := by omega
      refine JQ.ghost (L' := [Res.rows (y.flatMap rdsO), Res.row (.slice a_12 y.length c_13) 60 3 y.length (y.flatMap encO), bk b_15 31 [.slice a_12 d.l.length c_13, str d.jt, .int .i64 d.js], bk b_4 31 [.slice a_12 d.l.length c_13, str d.jt, .int .i64 d.js], bk b_3 31 [.slice d.a d.l.length d.c, str d.jt, .int .i64 d.js]]) (fun w hw => hw.eqL (by rw [List.drop_of_length_le (by omega), List.append_nil, hsl] <;> rfl)) ?_
      refine JQ.ghost (L' := [Res.rows (rdsOS a_12 c_13 y), bk b_15 31 [.slice a_12 d.l.length c_13, str d.jt, .int .i64 d.js], bk b_4 31 [.slice a_12 d.l.length c_13, str d.jt, .int .i64 d.js], bk b_3 31 [.slice d.a d.l.length d.c, str d.jt, .int .i64 d.js]]) (fun w hw => hw.consR (r := ⟨.slice a_12 y.length c_13, 60, 3, y.length, y.flatMap encO⟩) (A := y.flatMap rdsO) [1, 0] rfl) ?_
      refine Done.one (.inl rfl) rfl (RV.cell1 (LO.loadK 2 (vs := [.slice a_12 d.l.length c_13, str d.jt, .int .i64 d.js]) rfl he_17 Tryz.isAgg31 Tryz.sizeOf31 rfl rfl) ⟨_, he_17⟩) (List.sublist_append_left [Res.rows (rdsOS a_12 c_13 y)] [bk b_15 31 [.slice a_12 d.l.length c_13, str d.jt, .int .i64 d.js], bk b_4 31 [.slice a_12 d.l.length c_13, str d.jt, .int .i64 d.js], bk b_3 31 [.slice d.a d.l.length d.c, str d.jt, .int .i64 d.js]]) ?_
      have hda := map_all hd (show d.l.length ≤ j by omega)
      exact ⟨⟨a_12, c_13, y, d.jt, d.js⟩, by simp only [DX.dat, hda], by rw [hsl], rfl⟩
  · skip
    refine JX.op rfl rfl (JO.alloc (z := .agg #[.slice none 0 0, str [], .int .i64 0]) (cs := [.slice none 0 0, str [], .int .i64 0]) Tryz.zeroValue31 rfl) ?_
    rintro _ _ ⟨b_30, rfl, rfl⟩
    refine ⟨by simp, ?_⟩
    refine JA.one (i := 2) (by kernel_rfl) ?_
    refine JX.op rfl rfl (JO.call [] Tryz.call109 rfl (Z_cloneO d.a d.c d.l (by omega)) rfl (fun w hw => hw.seeOut_ hs_1 (fun _ _ => List.not_mem_nil))) ?_
    rintro _ _ ⟨_, ⟨a_33, c_34, rfl, rfl⟩, rfl⟩
    refine ⟨by simp, ?_⟩
    refine JA.takeP 5 rfl (by kernel_rfl) (NP.th NP.body) (by kernel_rfl) (by kernel_rfl) rfl (PO.build (ps := [(0, .slice a_33 d.l.length c_34), (1, .agg #[str d.jt, .int .i64 d.js])]) (cs := [.slice a_33 d.l.length c_34, str d.jt, .int .i64 d.js]) rfl (by kernel_rfl)) ?_
    refine JA.one (i := 7) (by kernel_rfl) ?_
    refine JX.last rfl rfl (by decide) (by kernel_rfl) (JO.store 1 (vs := [.slice a_33 d.l.length c_34, str d.jt, .int .i64 d.js]) (cs' := [.slice a_33 d.l.length c_34, str d.jt, .int .i64 d.js]) rfl rfl rfl rfl Tryz.sizeOf31 rfl rfl (Nat.le_of_ble_eq_true rfl) rfl) ?_
    rintro _ _ rfl
    refine JQ.seq ?_
    refine JC.seq ?_
    refine JC.seq ?_
    refine JC.region ?_
    refine JL.pure rfl (PO.fieldAddr fo31_0 rfl) ?_
    refine JL.ld rfl (LO.load1 1 (v := .slice a_33 d.l.length c_34) rfl rfl Tryz.isAgg28 rfl) ?_
    refine JL.pure rfl (PO.lenV Tryz.underlying28 rfl) ?_
    refine JL.pure rfl (PO.move (v := .int .i64 0) rfl) ?_
    refine JL.nil ?_
    refine JQ.seq ?_
    refine JC.block ?_
    refine JC.ghost (L' := [Res.rows (([] : List OX).flatMap rdsO), Res.row (.slice a_33 d.l.length c_34) 60 3 d.l.length (d.l.flatMap encO), bk b_30 31 [.slice a_33 d.l.length c_34, str d.jt, .int .i64 d.js], bk b_4 31 [.slice none 0 0, str [], .int .i64 0], bk b_3 31 [.slice d.a d.l.length d.c, str d.jt, .int .i64 d.js]]) (fun w hw => hw.nilR (α := OX) (f := rdsO) [0] (B := [Res.row (.slice a_33 d.l.length c_34) 60 3 d.l.length (d.l.flatMap encO)]) (F := [bk b_30 31 [.slice a_33 d.l.length c_34, str d.jt, .int .i64 d.js], bk b_4 31 [.slice none 0 0, str [], .int .i64 0], bk b_3 31 [.slice d.a d.l.length d.c, str d.jt, .int .i64 d.js]]) rfl) ?_
    refine JC.loop (fun k_ e_ L_ => ∃ j : Nat, ∃ y : List OX, (j ≤ d.l.length) ∧ (y.map OX.t = (d.l.take j).map OX.t) ∧ (y.length = j) ∧ e_ 2 = .pointer (some ⟨b_4, 0, none⟩) ∧ e_ 3 = .pointer (some ⟨b_30, 0, none⟩) ∧ e_ 13 = .int .i64 ((d.l.length : Nat) : Int) ∧ e_ 14 = .int .i64 ((j : Nat) : Int) ∧ L_ = [Res.rows (y.flatMap rdsO), Res.row (.slice a_33 d.l.length c_34) 60 3 d.l.length ((y ++ d.l.drop j).flatMap encO), bk b_30 31 [.slice a_33 d.l.length c_34, str d.jt, .int .i64 d.js], bk b_4 31 [.slice none 0 0, str [], .int .i64 0], bk b_3 31 [.slice d.a d.l.length d.c, str d.jt, .int .i64 d.js]] ∧ k_ = d.l.length - j) _ ⟨0, [], by omega, rfl, rfl, rfl, rfl, rfl, rfl, rfl, rfl⟩ ?_
    rintro _ e_35 _ ⟨j, y, hj, hd, hyl, he_36, he_37, he_38, he_39, rfl, rfl⟩
    refine JC.seq ?_
    refine JC.region ?_
    refine JL.pure rfl (PO.lss he_39 he_38) ?_
    refine JL.nil ?_
    refine JQ.seq ?_
    refine JC.seq ?_
    by_cases h_40 : ((j : Nat) : Int) < ((d.l.length : Nat) : Int)
    · skip
      have hlt : j < d.l.length := by omega
      refine JC.ghost (L' := [Res.row (.slice a_33 d.l.length c_34) 60 3 d.l.length (mid encO y [.int .i64 ((d.l.getD j o0).t.seq), .slice ((d.l.getD j o0).x.a0) ((d.l.getD j o0).t.cells.length) ((d.l.getD j o0).x.c0), .bool ((d.l.getD j o0).t.whole)] (d.l.drop (j + 1))), Res.rows (y.flatMap rdsO), bk b_30 31 [.slice a_33 d.l.length c_34, str d.jt, .int .i64 d.js], bk b_4 31 [.slice none 0 0, str [], .int .i64 0], bk b_3 31 [.slice d.a d.l.length d.c, str d.jt, .int .i64 d.js]]) (fun w hw => hw.midR 1 rfl o0 hlt) ?_
      have hi_41 := SeesA.elem hi_2 o0 hlt
      have hs_42 := seesO hi_41
      obtain ⟨hb_43⟩ : (d.l.getD j o0).t.lim 1000000000 := (hlm.2 _ (getD_mem (show j < d.l.length by omega)))
      refine JC.condT (congrArg Value.bool (decide_eq_true h_40)) ?_
      refine JC.skip ?_
      refine JQ.seq ?_
      refine JC.seq ?_
      refine JC.block ?_
      refine JC.seq ?_
      refine JC.region ?_
      refine JL.pure rfl (PO.move (v := .int .i64 ((j : Nat) : Int)) he_39) ?_
      refine JL.pure rfl (PO.assign (v := .int .i64 ((j : Nat) : Int)) rfl) ?_
      refine JL.nil ?_
      refine JQ.seq ?_
      refine JC.regionA [Res.row (.slice a_33 d.l.length c_34) 60 3 d.l.length (mid encO y [.int .i64 ((d.l.getD j o0).t.seq), .slice ((d.l.getD j o0).x.a0) ((d.l.getD j o0).t.cells.length) ((d.l.getD j o0).x.c0), .bool ((d.l.getD j o0).t.whole)] (d.l.drop (j + 1))), Res.rows (y.flatMap rdsO), bk b_30 31 [.slice a_33 d.l.length c_34, str d.jt, .int .i64 d.js], bk b_4 31 [.slice none 0 0, str [], .int .i64 0], bk b_3 31 [.slice d.a d.l.length d.c, str d.jt, .int .i64 d.js]] 10 mixed (by simp) ?_
      refine JA.takeP 0 rfl (by kernel_rfl) (NP.bl (NP.th (NP.th (NP.bl (NP.th NP.body))))) (by kernel_rfl) (by kernel_rfl) rfl (PO.fieldAddr fo31_0 he_37) ?_
      refine JA.take 1 rfl (by kernel_rfl) (NP.bl (NP.th (NP.th (NP.bl (NP.th NP.body))))) (by kernel_rfl) (by kernel_rfl) (by kernel_rfl) rfl (LO.load1 2 (v := .slice a_33 d.l.length c_34) rfl rfl Tryz.isAgg28 rfl) ?_
      refine JA.takeP 2 rfl (by kernel_rfl) (NP.bl (NP.th (NP.th (NP.bl (NP.th NP.body))))) (by kernel_rfl) (by kernel_rfl) rfl (PO.move (v := .int .i64 ((j : Nat) : Int)) rfl) ?_
      refine JA.takeP 3 rfl (by kernel_rfl) (NP.bl (NP.th (NP.th (NP.bl (NP.th NP.body))))) (by kernel_rfl) (by kernel_rfl) rfl (PO.fieldAddr fo31_0 he_37) ?_
      refine JA.take 4 rfl (by kernel_rfl) (NP.bl (NP.th (NP.th (NP.bl (NP.th NP.body))))) (by kernel_rfl) (by kernel_rfl) (by kernel_rfl) rfl (LO.load1 2 (v := .slice a_33 d.l.length c_34) rfl rfl Tryz.isAgg28 rfl) ?_
      refine JA.takeP 5 rfl (by kernel_rfl) (NP.bl (NP.th (NP.th (NP.bl (NP.th NP.body))))) (by kernel_rfl) (by kernel_rfl) rfl (PO.move (v := .int .i64 ((j : Nat) : Int)) rfl) ?_
      refine JA.facts fun hst => ?_
      obtain ⟨hr_44, hr_44b, -⟩ := row_some 0 rfl (by omega) hst
      refine JA.takeP 6 rfl (by kernel_rfl) (NP.bl (NP.th (NP.th (NP.bl (NP.th NP.body))))) (by kernel_rfl) (by kernel_rfl) rfl (PO.indexAddrV (i := j) Tryz.underlying28 Tryz.sizeOf60 hr_44 hr_44b rfl rfl (by omega)) ?_
      refine JA.takeP 7 rfl (by kernel_rfl) (NP.bl (NP.th (NP.th (NP.bl (NP.th NP.body))))) (by kernel_rfl) (by kernel_rfl) rfl (PO.fieldAddrE fo60_1 hr_44 rfl) ?_
      refine JA.take 8 rfl (by kernel_rfl) (NP.bl (NP.th (NP.th (NP.bl (NP.th NP.body))))) (by kernel_rfl) (by kernel_rfl) (by kernel_rfl) rfl (LO.loadR1 0 (v := .slice ((d.l.getD j o0).x.a0) ((d.l.getD j o0).t.cells.length) ((d.l.getD j o0).x.c0)) rfl rfl Tryz.isAgg49 (mid_at encO_len rfl hyl 1 (by decide))) ?_
      refine JA.one (i := 9) (by kernel_rfl) ?_
      refine JX.op rfl rfl (JO.call [] Tryz.call74 rfl (C_cloneC (d.l.getD j o0).x.a0 ((d.l.getD j o0).x.c0) ((d.l.getD j o0).t.cells) (by omega)) rfl (fun w hw => hw.seeOut_ hs_42 (fun _ _ => List.not_mem_nil))) ?_
      rintro _ _ ⟨_, ⟨a_47, c_48, rfl, rfl⟩, rfl⟩
      refine ⟨by simp, ?_⟩
      refine JA.takeP 10 rfl (by kernel_rfl) (NP.bl (NP.th (NP.th (NP.bl (NP.th NP.body))))) (by kernel_rfl) (by kernel_rfl) rfl (PO.indexAddrV (i := j) Tryz.underlying28 Tryz.sizeOf60 hr_44 hr_44b rfl rfl (by omega)) ?_
      refine JA.takeP 11 rfl (by kernel_rfl) (NP.bl (NP.th (NP.th (NP.bl (NP.th NP.body))))) (by kernel_rfl) (by kernel_rfl) rfl (PO.fieldAddrE fo60_1 hr_44 rfl) ?_
      refine JA.one (i := 12) (by kernel_rfl) ?_
      refine JX.last rfl rfl (by decide) (by kernel_rfl) (JO.storeR 1 (vs := [.slice a_47 (((d.l.getD j o0).t.cells).length) c_48]) (cs' := mid encO y [.int .i64 ((d.l.getD j o0).t.seq), .slice a_47 (((d.l.getD j o0).t.cells).length) c_48, .bool ((d.l.getD j o0).t.whole)] (d.l.drop (j + 1))) rfl rfl rfl rfl Tryz.sizeOf49 rfl rfl (by decide) (mid_fit encO_len rfl hyl (f := 1) (lb rfl)) (mid_set encO_len rfl hyl 1 [.slice a_47 (((d.l.getD j o0).t.cells).length) c_48] (lb rfl))) ?_
      rintro _ _ rfl
      refine JQ.blockN ?_
      refine JQ.seq ?_
      refine JC.region ?_
      refine JL.pure rfl (PO.add (c := ((j + 1 : Nat) : Int)) he_39 rfl (wr (by omega))) ?_
      refine JL.pure rfl (PO.move (v := .int .i64 ((j + 1 : Nat) : Int)) rfl) ?_
      refine JL.nil ?_
      refine JQ.ghost (L' := [Res.rows (rdsO (⟨⟨a_47, c_48⟩, (d.l.getD j o0).t⟩ : OX)), Res.row (.slice a_33 d.l.length c_34) 60 3 d.l.length (mid encO y [.int .i64 ((d.l.getD j o0).t.seq), .slice a_47 (((d.l.getD j o0).t.cells).length) c_48, .bool ((d.l.getD j o0).t.whole)] (d.l.drop (j + 1))), Res.rows (y.flatMap rdsO), bk b_30 31 [.slice a_33 d.l.length c_34, str d.jt, .int .i64 d.js], bk b_4 31 [.slice none 0 0, str [], .int .i64 0], bk b_3 31 [.slice d.a d.l.length d.c, str d.jt, .int .i64 d.js]]) (fun w hw => hw.closeR (A := rdsO (⟨⟨a_47, c_48⟩, (d.l.getD j o0).t⟩ : OX)) [0] rfl) ?_
      refine JQ.ghost (L' := [Res.rows ((y ++ [(⟨⟨a_47, c_48⟩, (d.l.getD j o0).t⟩ : OX)]).flatMap rdsO), Res.row (.slice a_33 d.l.length c_34) 60 3 d.l.length (((y ++ [(⟨⟨a_47, c_48⟩, (d.l.getD j o0).t⟩ : OX)]) ++ d.l.drop (j + 1)).flatMap encO), bk b_30 31 [.slice a_33 d.l.length c_34, str d.jt, .int .i64 d.js], bk b_4 31 [.slice none 0 0, str [], .int .i64 0], bk b_3 31 [.slice d.a d.l.length d.c, str d.jt, .int .i64 d.js]]) (fun w hw => St.addR [2, 1] rfl flatMap_snoc (hw.unmid 1 rfl (q := (⟨⟨a_47, c_48⟩, (d.l.getD j o0).t⟩ : OX)) rfl)) ?_
      refine JQ.pick [0, 0, 0, 0, 0] (A := [Res.rows ((y ++ [(⟨⟨a_47, c_48⟩, (d.l.getD j o0).t⟩ : OX)]).flatMap rdsO), Res.row (.slice a_33 d.l.length c_34) 60 3 d.l.length (((y ++ [(⟨⟨a_47, c_48⟩, (d.l.getD j o0).t⟩ : OX)]) ++ d.l.drop (j + 1)).flatMap encO), bk b_30 31 [.slice a_33 d.l.length c_34, str d.jt, .int .i64 d.js], bk b_4 31 [.slice none 0 0, str [], .int .i64 0], bk b_3 31 [.slice d.a d.l.length d.c, str d.jt, .int .i64 d.js]]) rfl ?_
      refine JQ.again (d.l.length - (j + 1)) (by omega) ⟨j + 1, (y ++ [(⟨⟨a_47, c_48⟩, (d.l.getD j o0).t⟩ : OX)]), by omega, (map_take_succ o0 hd hlt rfl), (by rw [List.length_append, hyl]; rfl), he_36, he_37, he_38, rfl, rfl, rfl⟩
    · skip
      refine JC.condF (congrArg Value.bool (decide_eq_false h_40)) ?_
      refine JC.exit ?_
      refine JQ.thenExit ?_
      refine JQ.thenExit ?_
      refine JQ.blockE ?_
      refine JQ.seq ?_
      refine JC.seq ?_
      refine JC.region ?_
      refine JL.ld rfl (LO.loadK 2 (vs := [.slice a_33 d.l.length c_34, str d.jt, .int .i64 d.js]) rfl he_37 Tryz.isAgg31 Tryz.sizeOf31 rfl rfl) ?_
      refine JL.op rfl (JO.store 3 (vs := [.slice a_33 d.l.length c_34, str d.jt, .int .i64 d.js]) (cs' := [.slice a_33 d.l.length c_34, str d.jt, .int .i64 d.js]) rfl he_36 rfl rfl Tryz.sizeOf31 rfl rfl (Nat.le_of_ble_eq_true rfl) rfl) ?_
      rintro _ _ rfl
      refine JL.nil ?_
      refine JQ.seq ?_
      refine JC.ret ?_
      have hsl : d.l.length = y.length := by omega
      refine JQ.ghost (L' := [Res.rows (y.flatMap rdsO), Res.row (.slice a_33 y.length c_34) 60 3 y.length (y.flatMap encO), bk b_30 31 [.slice a_33 d.l.length c_34, str d.jt, .int .i64 d.js], bk b_4 31 [.slice a_33 d.l.length c_34, str d.jt, .int .i64 d.js], bk b_3 31 [.slice d.a d.l.length d.c, str d.jt, .int .i64 d.js]]) (fun w hw => hw.eqL (by rw [List.drop_of_length_le (by omega), List.append_nil, hsl] <;> rfl)) ?_
      refine JQ.ghost (L' := [Res.rows (rdsOS a_33 c_34 y), bk b_30 31 [.slice a_33 d.l.length c_34, str d.jt, .int .i64 d.js], bk b_4 31 [.slice a_33 d.l.length c_34, str d.jt, .int .i64 d.js], bk b_3 31 [.slice d.a d.l.length d.c, str d.jt, .int .i64 d.js]]) (fun w hw => hw.consR (r := ⟨.slice a_33 y.length c_34, 60, 3, y.length, y.flatMap encO⟩) (A := y.flatMap rdsO) [1, 0] rfl) ?_
      refine Done.one (.inl rfl) rfl (RV.cell1 (LO.loadK 2 (vs := [.slice a_33 d.l.length c_34, str d.jt, .int .i64 d.js]) rfl he_36 Tryz.isAgg31 Tryz.sizeOf31 rfl rfl) ⟨_, he_36⟩) (List.sublist_append_left [Res.rows (rdsOS a_33 c_34 y)] [bk b_30 31 [.slice a_33 d.l.length c_34, str d.jt, .int .i64 d.js], bk b_4 31 [.slice a_33 d.l.length c_34, str d.jt, .int .i64 d.js], bk b_3 31 [.slice d.a d.l.length d.c, str d.jt, .int .i64 d.js]]) ?_
      have hda := map_all hd (show d.l.length ≤ j by omega)
      exact ⟨⟨a_33, c_34, y, d.jt, d.js⟩, by simp only [DX.dat, hda], by rw [hsl], rfl⟩

set_option maxRecDepth 4000 in
set_option maxHeartbeats 1000000 in
theorem Z_specl23Copy (d : DX) (hl : d.dat.lim 1000000000) :
    Ct Tryz.prog 56 [.agg #[.slice d.a d.l.length d.c, str d.jt, .int .i64 d.js]] [] (fun w => SeesA w (rdsD d)) (fun v A' => ∃ y : DX, y.dat = d.dat ∧ v = .agg #[.slice y.a y.l.length y.c, str y.jt, .int .i64 y.js] ∧ A' = [.rows (rdsD y)]) := by
  refine Ct.intro Tryz.func56 rfl Tryz.ntmps56 (Nat.le_of_ble_eq_true rfl) fun w0 hpre => ?_
  have hs_1 : Sees w0 (.slice d.a d.l.length d.c) 3 d.l.length (d.l.flatMap encO) := (hpre).head
  have hi_2 : SeesA w0 (d.l.flatMap rdsO) := (hpre).tail
  have hlm : d.l.length ≤ 1000000000 ∧ ∀ q ∈ d.l, q.t.lim 1000000000 := ⟨by have := hl.l0; simpa only [DX.dat, List.length_map] using this, fun q hq => hl.l1 _ (List.mem_map_of_mem hq)⟩
  have hlm0 := hlm.1
  refine JC.seq ?_
  refine JC.region ?_
  refine JL.op rfl (JO.box (cs := [.slice d.a d.l.length d.c, str d.jt, .int .i64 d.js]) rfl rfl) ?_
  rintro _ _ ⟨b_3, rfl, rfl⟩
  refine JL.op rfl (JO.alloc (z := .agg #[.slice none 0 0, str [], .int .i64 0]) (cs := [.slice none 0 0, str [], .int .i64 0]) Tryz.zeroValue31 rfl) ?_
  rintro _ _ ⟨b_4, rfl, rfl⟩
  refine JL.nil ?_
  refine JQ.seq ?_
  refine JC.seq ?_
  refine JC.region ?_
  refine JL.pure rfl (PO.fieldAddr fo31_1 rfl) ?_
  refine JL.ld rfl (LO.loadK 1 (vs := [str d.jt, .int .i64 d.js]) rfl rfl Tryz.isAgg29 Tryz.sizeOf29 rfl rfl) ?_
  refine JL.pure rfl (PO.build (ps := [(1, .agg #[str d.jt, .int .i64 d.js])]) (cs := [.slice none 0 0, str d.jt, .int .i64 d.js]) rfl (by kernel_rfl)) ?_
  refine JL.op rfl (JO.alloc (z := .agg #[.slice none 0 0, str [], .int .i64 0]) (cs := [.slice none 0 0, str [], .int .i64 0]) Tryz.zeroValue31 rfl) ?_
  rintro _ _ ⟨b_5, rfl, rfl⟩
  refine JL.op rfl (JO.store 0 (vs := [.slice none 0 0, str d.jt, .int .i64 d.js]) (cs' := [.slice none 0 0, str d.jt, .int .i64 d.js]) rfl rfl rfl rfl Tryz.sizeOf31 rfl rfl (Nat.le_of_ble_eq_true rfl) rfl) ?_
  rintro _ _ rfl
  refine JL.nil ?_
  refine JQ.seq ?_
  refine JC.seq ?_
  refine JC.seq ?_
  refine JC.region ?_
  refine JL.pure rfl (PO.assign (v := .int .i64 0) rfl) ?_
  refine JL.nil ?_
  refine JQ.seq ?_
  refine JC.block ?_
  refine JC.nilRow 60 3 ?_
  refine JC.ghost (L' := [Res.rows (([] : List OX).flatMap rdsO), Res.row (.slice none 0 0) 60 3 0 (([] : List OX).flatMap encO), bk b_5 31 [.slice none 0 0, str d.jt, .int .i64 d.js], bk b_4 31 [.slice none 0 0, str [], .int .i64 0], bk b_3 31 [.slice d.a d.l.length d.c, str d.jt, .int .i64 d.js]]) (fun w hw => hw.nilR (α := OX) (f := rdsO) [0, 0] (B := [Res.row (.slice none 0 0) 60 3 0 (([] : List OX).flatMap encO), bk b_5 31 [.slice none 0 0, str d.jt, .int .i64 d.js]]) (F := [bk b_4 31 [.slice none 0 0, str [], .int .i64 0], bk b_3 31 [.slice d.a d.l.length d.c, str d.jt, .int .i64 d.js]]) rfl) ?_
  refine JC.loop (fun k_ e_ L_ => ∃ j : Nat, ∃ ya : Option Addr, ∃ yc : Nat, ∃ y : List OX, (j ≤ d.l.length) ∧ (y.map OX.t = (d.l.take j).map OX.t) ∧ (y.length = j) ∧ e_ 1 = .pointer (some ⟨b_3, 0, none⟩) ∧ e_ 2 = .pointer (some ⟨b_4, 0, none⟩) ∧ e_ 3 = .pointer (some ⟨b_5, 0, none⟩) ∧ e_ 4 = .int .i64 ((j : Nat) : Int) ∧ L_ = [Res.rows (y.flatMap rdsO), Res.row (.slice ya y.length yc) 60 3 y.length (y.flatMap encO), bk b_5 31 [.slice ya y.length yc, str d.jt, .int .i64 d.js], bk b_4 31 [.slice none 0 0, str [], .int .i64 0], bk b_3 31 [.slice d.a d.l.length d.c, str d.jt, .int .i64 d.js]] ∧ k_ = d.l.length - j) _ ⟨0, none, 0, [], by omega, rfl, rfl, rfl, rfl, rfl, rfl, rfl, rfl⟩ ?_
  rintro _ e_6 _ ⟨j, ya, yc, y, hj, hd, hyl, he_7, he_8, he_9, he_10, rfl, rfl⟩
  refine JC.seq ?_
  refine JC.seq ?_
  refine JC.region ?_
  refine JL.pure rfl (PO.move (v := .int .i64 ((j : Nat) : Int)) he_10) ?_
  refine JL.pure rfl (PO.fieldAddr fo31_0 he_7) ?_
  refine JL.ld rfl (LO.load1 4 (v := .slice d.a d.l.length d.c) rfl rfl Tryz.isAgg28 rfl) ?_
  refine JL.pure rfl (PO.lenV Tryz.underlying28 rfl) ?_
  refine JL.pure rfl (PO.lss rfl rfl) ?_
  refine JL.nil ?_
  refine JQ.seq ?_
  by_cases h_11 : ((j : Nat) : Int) < ((d.l.length : Nat) : Int)
  · skip
    have hlt : j < d.l.length := by omega
    have hb9 : (d.l.getD j o0).t.cells.length ≤ 1000000000 := (hlm.2 _ (getD_mem hlt)).l0
    refine JC.condT (congrArg Value.bool (decide_eq_true h_11)) ?_
    refine JC.skip ?_
    refine JQ.seq ?_
    refine JC.seq ?_
    refine JC.block ?_
    refine JC.seq ?_
    refine JC.region ?_
    refine JL.pure rfl (PO.fieldAddr fo31_0 he_7) ?_
    refine JL.ld rfl (LO.load1 4 (v := .slice d.a d.l.length d.c) rfl rfl Tryz.isAgg28 rfl) ?_
    refine JL.pure rfl (PO.move (v := .int .i64 ((j : Nat) : Int)) he_10) ?_
    obtain ⟨hr_12, hr_12b, -⟩ := sees_some hs_1 (by omega)
    refine JL.pure rfl (PO.indexAddrV (i := j) Tryz.underlying28 Tryz.sizeOf60 hr_12 hr_12b rfl rfl (by omega)) ?_
    have hi_13 := SeesA.elem hi_2 o0 (show j < d.l.length by omega)
    have hs_14 := seesO hi_13
    refine JL.ld rfl (LO.loadSK (vs := [.int .i64 ((d.l.getD j o0).t.seq), .slice ((d.l.getD j o0).x.a0) ((d.l.getD j o0).t.cells.length) ((d.l.getD j o0).x.c0), .bool ((d.l.getD j o0).t.whole)]) hs_1 (fun _ _ => List.not_mem_nil) rfl Tryz.isAgg60 Tryz.sizeOf60 (flat_take encO_len o0 d.l j (by omega)) rfl (by decide)) ?_
    refine JL.op rfl (JO.alloc (z := .agg #[.int .i64 0, .slice none 0 0, .bool false]) (cs := [.int .i64 0, .slice none 0 0, .bool false]) Tryz.zeroValue60 rfl) ?_
    rintro _ _ ⟨b_15, rfl, rfl⟩
    refine JL.op rfl (JO.store 0 (vs := [.int .i64 ((d.l.getD j o0).t.seq), .slice ((d.l.getD j o0).x.a0) ((d.l.getD j o0).t.cells.length) ((d.l.getD j o0).x.c0), .bool ((d.l.getD j o0).t.whole)]) (cs' := [.int .i64 ((d.l.getD j o0).t.seq), .slice ((d.l.getD j o0).x.a0) ((d.l.getD j o0).t.cells.length) ((d.l.getD j o0).x.c0), .bool ((d.l.getD j o0).t.whole)]) rfl rfl rfl rfl Tryz.sizeOf60 rfl rfl (Nat.le_of_ble_eq_true rfl) rfl) ?_
    rintro _ _ rfl
    refine JL.nil ?_
    refine JQ.seq ?_
    refine JC.seq ?_
    refine JC.region ?_
    refine JL.op rfl (JO.buildSlice (ps := []) (cur := #[]) Tryz.underlying49 Tryz.sizeOf48 Tryz.zeroValue48 rfl (by kernel_rfl) (by decide) (by decide)) ?_
    rintro _ _ ⟨a_16, rfl, rfl⟩
    refine JL.pure rfl (PO.fieldAddr fo60_1 rfl) ?_
    refine JL.ld rfl (LO.load1 1 (v := .slice ((d.l.getD j o0).x.a0) ((d.l.getD j o0).t.cells.length) ((d.l.getD j o0).x.c0)) rfl rfl Tryz.isAgg49 rfl) ?_
    refine JL.op rfl (JO.append' 0 (q := ((d.l.getD j o0).t.cells.length)) (news := ((d.l.getD j o0).t.cells).flatMap encC) (n' := ((d.l.getD j o0).t.cells).length) (cs' := ((d.l.getD j o0).t.cells).flatMap encC) rfl Tryz.underlying49 Tryz.underlying49 Tryz.typeInfo48 rfl (by' := 32) rfl rfl rfl rfl rfl (fun w hw => Src.sees (hw.seeOut_ hs_14 (fun _ _ => List.not_mem_nil)) (oneC _)) (by (try simp only [List.length_append, List.length_cons, List.length_nil, List.length_take, List.length_drop]); omega) (by (try simp only [List.length_append, List.length_cons, List.length_nil, List.length_take, List.length_drop]); omega) (by (try simp only [List.length_take, List.length_drop]); first | rfl | omega) rfl) ?_
    rintro _ _ ⟨a_17, c_18, rfl, rfl⟩
    refine JL.pure rfl (PO.fieldAddr fo60_1 rfl) ?_
    refine JL.op rfl (JO.store 1 (vs := [.slice a_17 (((d.l.getD j o0).t.cells).length) c_18]) (cs' := [.int .i64 ((d.l.getD j o0).t.seq), .slice a_17 (((d.l.getD j o0).t.cells).length) c_18, .bool ((d.l.getD j o0).t.whole)]) rfl rfl rfl rfl Tryz.sizeOf49 rfl rfl (Nat.le_of_ble_eq_true rfl) rfl) ?_
    rintro _ _ rfl
    refine JL.nil ?_
    refine JQ.seq ?_
    refine JC.region ?_
    refine JL.pure rfl (PO.fieldAddr fo31_0 he_9) ?_
    refine JL.ld rfl (LO.load1 4 (v := .slice ya y.length yc) rfl rfl Tryz.isAgg28 rfl) ?_
    refine JL.ld rfl (LO.loadK 1 (vs := [.int .i64 ((d.l.getD j o0).t.seq), .slice a_17 (((d.l.getD j o0).t.cells).length) c_18, .bool ((d.l.getD j o0).t.whole)]) rfl rfl Tryz.isAgg60 Tryz.sizeOf60 rfl rfl) ?_
    refine JL.op rfl (JO.buildSlice (ps := [(0, .agg #[.int .i64 ((d.l.getD j o0).t.seq), .slice a_17 (((d.l.getD j o0).t.cells).length) c_18, .bool ((d.l.getD j o0).t.whole)])]) (cur := #[.int .i64 ((d.l.getD j o0).t.seq), .slice a_17 (((d.l.getD j o0).t.cells).length) c_18, .bool ((d.l.getD j o0).t.whole)]) Tryz.underlying28 Tryz.sizeOf60 Tryz.zeroValue60 rfl (by kernel_rfl) (by decide) (by decide)) ?_
    rintro _ _ ⟨a_19, rfl, rfl⟩
    refine JL.op rfl (JO.append' 4 (q := 1) (news := ([(⟨⟨a_17, c_18⟩, ⟨(d.l.getD j o0).t.seq, (d.l.getD j o0).t.cells, (d.l.getD j o0).t.whole⟩⟩ : OX)] : List OX).flatMap encO) (n' := (y ++ ([(⟨⟨a_17, c_18⟩, ⟨(d.l.getD j o0).t.seq, (d.l.getD j o0).t.cells, (d.l.getD j o0).t.whole⟩⟩ : OX)] : List OX)).length) (cs' := (y ++ ([(⟨⟨a_17, c_18⟩, ⟨(d.l.getD j o0).t.seq, (d.l.getD j o0).t.cells, (d.l.getD j o0).t.whole⟩⟩ : OX)] : List OX)).flatMap encO) rfl Tryz.underlying28 Tryz.underlying28 Tryz.typeInfo60 rfl (by' := 40) rfl rfl rfl rfl rfl (fun w hw => Src.sees (hw.see (i := 0) rfl) (oneO _)) (by (try simp only [List.length_append, List.length_cons, List.length_nil, List.length_take, List.length_drop]); omega) (by (try simp only [List.length_append, List.length_cons, List.length_nil, List.length_take, List.length_drop]); omega) (by simp only [List.length_append, List.length_take, List.length_drop, List.length_cons, List.length_nil] <;> first | rfl | omega) (by simp only [List.flatMap_append])) ?_
    rintro _ _ ⟨a_20, c_21, rfl, rfl⟩
    refine JL.pure rfl (PO.fieldAddr fo31_0 he_9) ?_
    refine JL.op rfl (JO.store 5 (vs := [.slice a_20 ((y ++ ([(⟨⟨a_17, c_18⟩, ⟨(d.l.getD j o0).t.seq, (d.l.getD j o0).t.cells, (d.l.getD j o0).t.whole⟩⟩ : OX)] : List OX)).length) c_21]) (cs' := [.slice a_20 ((y ++ ([(⟨⟨a_17, c_18⟩, ⟨(d.l.getD j o0).t.seq, (d.l.getD j o0).t.cells, (d.l.getD j o0).t.whole⟩⟩ : OX)] : List OX)).length) c_21, str d.jt, .int .i64 d.js]) rfl rfl rfl rfl Tryz.sizeOf28 rfl rfl (Nat.le_of_ble_eq_true rfl) rfl) ?_
    rintro _ _ rfl
    refine JL.nil ?_
    refine JQ.blockN ?_
    refine JQ.seq ?_
    refine JC.region ?_
    refine JL.pure rfl (PO.move (v := .int .i64 ((j : Nat) : Int)) he_10) ?_
    refine JL.pure rfl (PO.add (c := ((j + 1 : Nat) : Int)) rfl rfl (wr (by omega))) ?_
    refine JL.pure rfl (PO.assign (v := .int .i64 ((j + 1 : Nat) : Int)) rfl) ?_
    refine JL.nil ?_
    refine JQ.ghost (L' := [Res.rows (rdsO (⟨⟨a_17, c_18⟩, ⟨(d.l.getD j o0).t.seq, (d.l.getD j o0).t.cells, (d.l.getD j o0).t.whole⟩⟩ : OX)), Res.row (.slice a_19 1 1) 60 3 1 (([(⟨⟨a_17, c_18⟩, ⟨(d.l.getD j o0).t.seq, (d.l.getD j o0).t.cells, (d.l.getD j o0).t.whole⟩⟩ : OX)] : List OX).flatMap encO), bk b_15 60 [.int .i64 ((d.l.getD j o0).t.seq), .slice a_17 (((d.l.getD j o0).t.cells).length) c_18, .bool ((d.l.getD j o0).t.whole)], Res.rows (y.flatMap rdsO), Res.row (.slice a_20 ((y ++ ([(⟨⟨a_17, c_18⟩, ⟨(d.l.getD j o0).t.seq, (d.l.getD j o0).t.cells, (d.l.getD j o0).t.whole⟩⟩ : OX)] : List OX)).length) c_21) 60 3 ((y ++ ([(⟨⟨a_17, c_18⟩, ⟨(d.l.getD j o0).t.seq, (d.l.getD j o0).t.cells, (d.l.getD j o0).t.whole⟩⟩ : OX)] : List OX)).length) ((y ++ ([(⟨⟨a_17, c_18⟩, ⟨(d.l.getD j o0).t.seq, (d.l.getD j o0).t.cells, (d.l.getD j o0).t.whole⟩⟩ : OX)] : List OX)).flatMap encO), bk b_5 31 [.slice a_20 ((y ++ ([(⟨⟨a_17, c_18⟩, ⟨(d.l.getD j o0).t.seq, (d.l.getD j o0).t.cells, (d.l.getD j o0).t.whole⟩⟩ : OX)] : List OX)).length) c_21, str d.jt, .int .i64 d.js], bk b_4 31 [.slice none 0 0, str [], .int .i64 0], bk b_3 31 [.slice d.a d.l.length d.c, str d.jt, .int .i64 d.js]]) (fun w hw => hw.closeR (A := rdsO (⟨⟨a_17, c_18⟩, ⟨(d.l.getD j o0).t.seq, (d.l.getD j o0).t.cells, (d.l.getD j o0).t.whole⟩⟩ : OX)) [1] rfl) ?_
    refine JQ.ghost (L' := [Res.rows ((y ++ [(⟨⟨a_17, c_18⟩, ⟨(d.l.getD j o0).t.seq, (d.l.getD j o0).t.cells, (d.l.getD j o0).t.whole⟩⟩ : OX)]).flatMap rdsO), Res.row (.slice a_19 1 1) 60 3 1 (([(⟨⟨a_17, c_18⟩, ⟨(d.l.getD j o0).t.seq, (d.l.getD j o0).t.cells, (d.l.getD j o0).t.whole⟩⟩ : OX)] : List OX).flatMap encO), bk b_15 60 [.int .i64 ((d.l.getD j o0).t.seq), .slice a_17 (((d.l.getD j o0).t.cells).length) c_18, .bool ((d.l.getD j o0).t.whole)], Res.row (.slice a_20 ((y ++ ([(⟨⟨a_17, c_18⟩, ⟨(d.l.getD j o0).t.seq, (d.l.getD j o0).t.cells, (d.l.getD j o0).t.whole⟩⟩ : OX)] : List OX)).length) c_21) 60 3 ((y ++ ([(⟨⟨a_17, c_18⟩, ⟨(d.l.getD j o0).t.seq, (d.l.getD j o0).t.cells, (d.l.getD j o0).t.whole⟩⟩ : OX)] : List OX)).length) ((y ++ ([(⟨⟨a_17, c_18⟩, ⟨(d.l.getD j o0).t.seq, (d.l.getD j o0).t.cells, (d.l.getD j o0).t.whole⟩⟩ : OX)] : List OX)).flatMap encO), bk b_5 31 [.slice a_20 ((y ++ ([(⟨⟨a_17, c_18⟩, ⟨(d.l.getD j o0).t.seq, (d.l.getD j o0).t.cells, (d.l.getD j o0).t.whole⟩⟩ : OX)] : List OX)).length) c_21, str d.jt, .int .i64 d.js], bk b_4 31 [.slice none 0 0, str [], .int .i64 0], bk b_3 31 [.slice d.a d.l.length d.c, str d.jt, .int .i64 d.js]]) (fun w hw => hw.addR [3, 0] rfl flatMap_snoc) ?_
    refine JQ.pick [0, 2, 2, 2, 2] (A := [Res.rows ((y ++ [(⟨⟨a_17, c_18⟩, ⟨(d.l.getD j o0).t.seq, (d.l.getD j o0).t.cells, (d.l.getD j o0).t.whole⟩⟩ : OX)]).flatMap rdsO), Res.row (.slice a_20 ((y ++ ([(⟨⟨a_17, c_18⟩, ⟨(d.l.getD j o0).t.seq, (d.l.getD j o0).t.cells, (d.l.getD j o0).t.whole⟩⟩ : OX)] : List OX)).length) c_21) 60 3 ((y ++ [(⟨⟨a_17, c_18⟩, ⟨(d.l.getD j o0).t.seq, (d.l.getD j o0).t.cells, (d.l.getD j o0).t.whole⟩⟩ : OX)]).length) ((y ++ [(⟨⟨a_17, c_18⟩, ⟨(d.l.getD j o0).t.seq, (d.l.getD j o0).t.cells, (d.l.getD j o0).t.whole⟩⟩ : OX)]).flatMap encO), bk b_5 31 [.slice a_20 ((y ++ ([(⟨⟨a_17, c_18⟩, ⟨(d.l.getD j o0).t.seq, (d.l.getD j o0).t.cells, (d.l.getD j o0).t.whole⟩⟩ : OX)] : List OX)).length) c_21, str d.jt, .int .i64 d.js], bk b_4 31 [.slice none 0 0, str [], .int .i64 0], bk b_3 31 [.slice d.a d.l.length d.c, str d.jt, .int .i64 d.js]]) rfl ?_
    refine JQ.again (d.l.length - (j + 1)) (by omega) ⟨j + 1, a_20, c_21, (y ++ [(⟨⟨a_17, c_18⟩, ⟨(d.l.getD j o0).t.seq, (d.l.getD j o0).t.cells, (d.l.getD j o0).t.whole⟩⟩ : OX)]), by omega, (map_take_succ o0 hd hlt rfl), (by rw [List.length_append, hyl]; rfl), he_7, he_8, he_9, rfl, rfl, rfl⟩
  · skip
    refine JC.condF (congrArg Value.bool (decide_eq_false h_11)) ?_
    refine JC.exit ?_
    refine JQ.thenExit ?_
    refine JQ.thenExit ?_
    refine JQ.blockE ?_
    refine JQ.seq ?_
    refine JC.seq ?_
    refine JC.region ?_
    refine JL.ld rfl (LO.loadK 2 (vs := [.slice ya y.length yc, str d.jt, .int .i64 d.js]) rfl he_9 Tryz.isAgg31 Tryz.sizeOf31 rfl rfl) ?_
    refine JL.op rfl (JO.store 3 (vs := [.slice ya y.length yc, str d.jt, .int .i64 d.js]) (cs' := [.slice ya y.length yc, str d.jt, .int .i64 d.js]) rfl he_8 rfl rfl Tryz.sizeOf31 rfl rfl (Nat.le_of_ble_eq_true rfl) rfl) ?_
    rintro _ _ rfl
    refine JL.nil ?_
    refine JQ.seq ?_
    refine JC.ret ?_
    refine JQ.ghost (L' := [Res.rows (rdsOS ya yc y), bk b_5 31 [.slice ya y.length yc, str d.jt, .int .i64 d.js], bk b_4 31 [.slice ya y.length yc, str d.jt, .int .i64 d.js], bk b_3 31 [.slice d.a d.l.length d.c, str d.jt, .int .i64 d.js]]) (fun w hw => hw.consR (r := ⟨.slice ya y.length yc, 60, 3, y.length, y.flatMap encO⟩) (A := y.flatMap rdsO) [1, 0] rfl) ?_
    refine Done.one (.inl rfl) rfl (RV.cell1 (LO.loadK 2 (vs := [.slice ya y.length yc, str d.jt, .int .i64 d.js]) rfl he_8 Tryz.isAgg31 Tryz.sizeOf31 rfl rfl) ⟨_, he_8⟩) (List.sublist_append_left [Res.rows (rdsOS ya yc y)] [bk b_5 31 [.slice ya y.length yc, str d.jt, .int .i64 d.js], bk b_4 31 [.slice ya y.length yc, str d.jt, .int .i64 d.js], bk b_3 31 [.slice d.a d.l.length d.c, str d.jt, .int .i64 d.js]]) ?_
    have hda := map_all hd (show d.l.length ≤ j by omega)
    exact ⟨⟨ya, yc, y, d.jt, d.js⟩, by simp only [DX.dat, hda], rfl, rfl⟩

end Go.Proofs.YtjncpgcccgdeiaaGreatDoor

set_option linter.unusedSimpArgs false
set_option linter.unusedVariables false
set_option linter.unnecessarySimpa false
namespace Go.Proofs.YtjncpgcccgdeiaaGreatDoor
open Go Go.RowKit
attribute [local irreducible] JL JC JQ JO LO PO JA JX Ct

theorem Y_sBestN (d : DX) (hz : d.dat.okz) (hl : d.l.length ≤ 1000000000) (q : Nat) (hq : bestD d.dat = ((q : Nat) : Int)) : Ct Tryz.prog 49 [.agg #[.slice d.a d.l.length d.c, str d.jt, .int .i64 d.js]] [] (fun w => SeesA w (rdsD d)) (fun v A' => v = .int .i64 ((q : Nat) : Int) ∧ A' = []) :=
  (Y_sBest d hz hl).weak (fun _ h => h) fun v A' ⟨hv, hA⟩ => ⟨by rw [hv, hq], hA⟩

set_option maxRecDepth 4000 in
set_option maxHeartbeats 1000000 in
theorem Y_sTrim (d : DX) (hz : d.dat.okz) (hl : d.dat.lim 1000000000) :
    Ct Tryz.prog 12 [.agg #[.slice d.a d.l.length d.c, str d.jt, .int .i64 d.js]] [] (fun w => SeesA w (rdsD d)) (fun v A' => ∃ y : DX, y.dat = d.dat.trim ∧ v = .agg #[.slice y.a y.l.length y.c, str y.jt, .int .i64 y.js] ∧ A' = [.rows (rdsD y)]) := by
  refine Ct.intro Tryz.func12 rfl Tryz.ntmps12 (Nat.le_of_ble_eq_true rfl) fun w0 hpre => ?_
  have hs_1 : Sees w0 (.slice d.a d.l.length d.c) 3 d.l.length (d.l.flatMap encO) := (hpre).head
  have hi_2 : SeesA w0 (d.l.flatMap rdsO) := (hpre).tail
  have hjt := hz.k2
  have hdl : d.l.length ≤ 1000000000 := by have := hl.l0; simpa only [DX.dat, List.length_map] using this
  refine JC.seq ?_
  refine JC.region ?_
  refine JL.op rfl (JO.box (cs := [.slice d.a d.l.length d.c, str d.jt, .int .i64 d.js]) rfl rfl) ?_
  rintro _ _ ⟨b_3, rfl, rfl⟩
  refine JL.op rfl (JO.alloc (z := .agg #[.slice none 0 0, str [], .int .i64 0]) (cs := [.slice none 0 0, str [], .int .i64 0]) Tryz.zeroValue31 rfl) ?_
  rintro _ _ ⟨b_4, rfl, rfl⟩
  refine JL.nil ?_
  refine JQ.seq ?_
  refine JC.seq ?_
  refine JC.region ?_
  refine JL.ld rfl (LO.loadK 1 (vs := [.slice d.a d.l.length d.c, str d.jt, .int .i64 d.js]) rfl rfl Tryz.isAgg31 Tryz.sizeOf31 rfl rfl) ?_
  refine JL.op rfl (JO.call [] Tryz.call56 rfl (Z_specl23Copy d hl) rfl (fun w hw => hw.seeOutA hpre nMA)) ?_
  rintro _ _ ⟨_, ⟨y_5, hy_6, rfl, rfl⟩, rfl⟩
  refine JL.op rfl (JO.store 2 (vs := [.slice y_5.a y_5.l.length y_5.c, str y_5.jt, .int .i64 y_5.js]) (cs' := [.slice y_5.a y_5.l.length y_5.c, str y_5.jt, .int .i64 y_5.js]) rfl rfl rfl rfl Tryz.sizeOf31 rfl rfl (Nat.le_of_ble_eq_true rfl) rfl) ?_
  rintro _ _ rfl
  refine JL.nil ?_
  refine JQ.seq ?_
  refine JC.seq ?_
  refine JC.seq ?_
  have hzy : y_5.dat.okz := by rw [hy_6]; exact hz
  have hyl : y_5.l.length = d.l.length := by have e_ := congrArg (fun q : DD => q.slots.length) hy_6; simpa only [DX.dat, List.length_map] using e_
  have hyt : y_5.jt = d.jt := congrArg DD.jt hy_6
  have hys : y_5.js = d.js := congrArg DD.js hy_6
  refine JC.region ?_
  refine JL.ld rfl (LO.loadK 2 (vs := [.slice y_5.a y_5.l.length y_5.c, str y_5.jt, .int .i64 y_5.js]) rfl rfl Tryz.isAgg31 Tryz.sizeOf31 rfl rfl) ?_
  refine JL.op rfl (JO.call [] Tryz.call42 rfl (Y_specDiskOk y_5 hzy (by omega)) rfl (fun w hw => hw.seeRows 0 rfl)) ?_
  rintro _ _ ⟨_, ⟨rfl, rfl⟩, rfl⟩
  refine JL.pure rfl (PO.not rfl) ?_
  refine JL.nil ?_
  refine JQ.seq ?_
  rcases Bool.eq_false_or_eq_true (diskOk y_5.dat) with h_7 | h_7
  · skip
    refine JC.condF (congrArg Value.bool (congrArg Bool.not h_7)) ?_
    refine JC.skip ?_
    refine JQ.seq ?_
    refine JC.seq ?_
    obtain ⟨q, hq, hql⟩ := diskOk_best h_7
    have hql : q < y_5.l.length := by simpa only [DX.dat, List.length_map] using hql
    have hjr := diskOk_jour (d := d.dat) (by rw [← hy_6]; exact h_7)
    have hmost : (y_5.l.getD q o0).t.seq = mostOf d.dat := by rw [mostOf, ← hy_6, hq, Int.toNat_natCast]; exact congrArg SD.seq getD_map'.symm
    refine JC.ghost (L' := [Res.row (.slice y_5.a y_5.l.length y_5.c) 60 3 y_5.l.length (y_5.l.flatMap encO), Res.rows (y_5.l.flatMap rdsO), bk b_4 31 [.slice none 0 0, str [], .int .i64 0], bk b_3 31 [.slice y_5.a y_5.l.length y_5.c, str y_5.jt, .int .i64 y_5.js]]) (fun w hw => hw.headR (r := ⟨.slice y_5.a y_5.l.length y_5.c, 60, 3, y_5.l.length, y_5.l.flatMap encO⟩) (A := y_5.l.flatMap rdsO) 0 rfl) ?_
    refine JC.regionA [Res.row (.slice y_5.a y_5.l.length y_5.c) 60 3 y_5.l.length (y_5.l.flatMap encO), Res.rows (y_5.l.flatMap rdsO), bk b_4 31 [.slice none 0 0, str [], .int .i64 0], bk b_3 31 [.slice y_5.a y_5.l.length y_5.c, str y_5.jt, .int .i64 y_5.js]] 7 mixed (by simp) ?_
    refine JA.takeP 0 rfl (by kernel_rfl) (NP.th NP.body) (by kernel_rfl) (by kernel_rfl) rfl (PO.fieldAddr fo31_0 rfl) ?_
    refine JA.take 1 rfl (by kernel_rfl) (NP.th NP.body) (by kernel_rfl) (by kernel_rfl) (by kernel_rfl) rfl (LO.load1 3 (v := .slice y_5.a y_5.l.length y_5.c) rfl rfl Tryz.isAgg28 rfl) ?_
    refine JA.take 2 rfl (by kernel_rfl) (NP.th NP.body) (by kernel_rfl) (by kernel_rfl) (by kernel_rfl) rfl (LO.loadK 3 (vs := [.slice y_5.a y_5.l.length y_5.c, str y_5.jt, .int .i64 y_5.js]) rfl rfl Tryz.isAgg31 Tryz.sizeOf31 rfl rfl) ?_
    refine JA.one (i := 3) (by kernel_rfl) ?_
    refine JX.op rfl rfl (JO.call [] Tryz.call49 rfl (Y_sBestN y_5 hzy (by omega) q hq) rfl (fun w hw => SeesA.cons (hw.see (i := 0) rfl) (hw.seeRows 1 rfl))) ?_
    rintro _ _ ⟨_, ⟨rfl, rfl⟩, rfl⟩
    refine ⟨by simp, ?_⟩
    refine JA.facts fun hst => ?_
    obtain ⟨hr_8, hr_8b, -⟩ := row_some 0 rfl (by omega) hst
    refine JA.takeP 4 rfl (by kernel_rfl) (NP.th NP.body) (by kernel_rfl) (by kernel_rfl) rfl (PO.indexAddrV (i := q) Tryz.underlying28 Tryz.sizeOf60 hr_8 hr_8b rfl rfl (by omega)) ?_
    refine JA.takeP 5 rfl (by kernel_rfl) (NP.th NP.body) (by kernel_rfl) (by kernel_rfl) rfl (PO.fieldAddrE fo60_0 hr_8 rfl) ?_
    refine JA.take 6 rfl (by kernel_rfl) (NP.th NP.body) (by kernel_rfl) (by kernel_rfl) (by kernel_rfl) rfl (LO.loadR1 0 (v := .int .i64 ((y_5.l.getD q o0).t.seq)) rfl rfl Tryz.isAgg3 (flat_at encO_len o0 y_5.l q 0 (by omega) (by decide))) ?_
    refine JA.takeP 7 rfl (by kernel_rfl) (NP.th NP.body) (by kernel_rfl) (by kernel_rfl) rfl (PO.assign (v := .int .i64 ((y_5.l.getD q o0).t.seq)) rfl) ?_
    refine JA.done (by kernel_rfl) ?_
    refine JQ.seq ?_
    refine JC.seq ?_
    have hjr2 : ((d.jt.length : Nat) : Int) ≤ 20000 ∧ 0 ≤ d.js ∧ d.js ≤ ((d.jt.length : Nat) : Int) := by have h_ : jourOk d.jt d.js = true := hjr; simpa only [jourOk, within, Bool.and_eq_true, decide_eq_true_eq, and_assoc] using h_
    have hytl : y_5.jt.length = d.jt.length := by rw [hyt]
    have htl := trimN_le (y_5.l.getD q o0).t.seq y_5.jt
    refine JC.region ?_
    refine JL.pure rfl (PO.fieldAddr fo31_1 rfl) ?_
    refine JL.pure rfl (PO.fieldAddr fo29_0 rfl) ?_
    refine JL.ld rfl (LO.load1 3 (v := str y_5.jt) rfl rfl Tryz.isAgg9 rfl) ?_
    refine JL.op rfl (JO.call [] Tryz.call57 rfl (Y_sLines y_5.jt (by rw [hyt]; omega)) rfl (fun _ _ => trivial)) ?_
    rintro _ _ ⟨_, ⟨a_9, c_10, rfl, rfl⟩, rfl⟩
    refine JL.pure rfl (PO.assign (v := .slice a_9 ((linesOf y_5.jt).length) c_10) rfl) ?_
    refine JL.nil ?_
    refine JQ.seq ?_
    refine JC.seq ?_
    refine JC.region ?_
    refine JL.pure rfl (PO.assign (v := .int .i64 0) rfl) ?_
    refine JL.nil ?_
    refine JQ.seq ?_
    refine JC.seq ?_
    refine JC.seq ?_
    refine JC.region ?_
    refine JL.pure rfl (PO.assign (v := .int .i64 0) rfl) ?_
    refine JL.nil ?_
    refine JQ.seq ?_
    refine JC.block ?_
    refine JC.loop (fun k_ e_ L_ => ∃ i : Nat, ∃ n : Nat, (i ≤ (linesOf y_5.jt).length) ∧ (n + trimN (y_5.l.getD q o0).t.seq ((linesOf y_5.jt).drop i) = trimN (y_5.l.getD q o0).t.seq (linesOf y_5.jt)) ∧ e_ 1 = .pointer (some ⟨b_3, 0, none⟩) ∧ e_ 2 = .pointer (some ⟨b_4, 0, none⟩) ∧ e_ 3 = .int .i64 ((y_5.l.getD q o0).t.seq) ∧ e_ 4 = .slice a_9 ((linesOf y_5.jt).length) c_10 ∧ e_ 5 = .int .i64 ((n : Nat) : Int) ∧ e_ 6 = .int .i64 ((i : Nat) : Int) ∧ L_ = [rS a_9 c_10 (linesOf y_5.jt), Res.row (.slice y_5.a y_5.l.length y_5.c) 60 3 y_5.l.length (y_5.l.flatMap encO), Res.rows (y_5.l.flatMap rdsO), bk b_4 31 [.slice none 0 0, str [], .int .i64 0], bk b_3 31 [.slice y_5.a y_5.l.length y_5.c, str y_5.jt, .int .i64 y_5.js]] ∧ k_ = (linesOf y_5.jt).length - i) _ ⟨0, 0, by omega, (by simp), rfl, rfl, rfl, rfl, rfl, rfl, rfl, rfl⟩ ?_
    rintro _ e_11 _ ⟨i, n, hi, hR, he_12, he_13, he_14, he_15, he_16, he_17, rfl, rfl⟩
    refine JC.seq ?_
    refine JC.seq ?_
    refine JC.region ?_
    refine JL.pure rfl (PO.move (v := .int .i64 ((i : Nat) : Int)) he_17) ?_
    refine JL.pure rfl (PO.move (v := .slice a_9 ((linesOf y_5.jt).length) c_10) he_15) ?_
    refine JL.pure rfl (PO.lenV Tryz.underlying71 rfl) ?_
    refine JL.pure rfl (PO.lss rfl rfl) ?_
    refine JL.nil ?_
    refine JQ.seq ?_
    by_cases h_18 : ((i : Nat) : Int) < (((linesOf y_5.jt).length : Nat) : Int)
    · skip
      have hlt : i < (linesOf y_5.jt).length := by omega
      have hml : ((linesOf y_5.jt).getD i []).length ≤ 0 + y_5.jt.length := linesG_mem y_5.jt [] _ (getD_mem (d := []) hlt)
      have hll : (linesOf y_5.jt).length ≤ y_5.jt.length := linesG_len y_5.jt []
      refine JC.condT (congrArg Value.bool (decide_eq_true h_18)) ?_
      refine JC.skip ?_
      refine JQ.seq ?_
      refine JC.seq ?_
      refine JC.block ?_
      refine JC.seq ?_
      refine JC.region ?_
      refine JL.pure rfl (PO.move (v := .slice a_9 ((linesOf y_5.jt).length) c_10) he_15) ?_
      refine JL.pure rfl (PO.move (v := .int .i64 ((i : Nat) : Int)) he_17) ?_
      refine JL.facts fun hst => ?_
      obtain ⟨hr_19, hr_19b, -⟩ := row_some 0 rfl (by omega) hst
      refine JL.pure rfl (PO.indexAddrV (i := i) Tryz.underlying71 Tryz.sizeOf9 hr_19 hr_19b rfl rfl (by omega)) ?_
      refine JL.ld rfl (LO.loadR1 0 (v := str ((linesOf y_5.jt).getD i [])) rfl rfl Tryz.isAgg9 (atS (by omega))) ?_
      refine JL.op rfl (JO.call [] Tryz.call58 rfl (Y_sRead ((linesOf y_5.jt).getD i []) (by have h_ := linesG_mem y_5.jt [] ((linesOf y_5.jt).getD i []) (getD_mem hlt); simp only [List.length_nil] at h_; omega)) rfl (fun _ _ => trivial)) ?_
      rintro _ _ ⟨_, ⟨a_20, c_21, rfl, rfl⟩, rfl⟩
      refine JL.pure rfl (PO.move (v := .tuple #[.int .i64 ((readI ((linesOf y_5.jt).getD i [])).1), .slice a_20 ((readI ((linesOf y_5.jt).getD i [])).2.1.length) c_21, .bool ((readI ((linesOf y_5.jt).getD i [])).2.2)]) rfl) ?_
      refine JL.pure rfl (PO.extract (v := .int .i64 ((readI ((linesOf y_5.jt).getD i [])).1)) rfl rfl) ?_
      refine JL.pure rfl (PO.extract (v := .slice a_20 ((readI ((linesOf y_5.jt).getD i [])).2.1.length) c_21) rfl rfl) ?_
      refine JL.pure rfl (PO.extract (v := .bool ((readI ((linesOf y_5.jt).getD i [])).2.2)) rfl rfl) ?_
      refine JL.pure rfl (PO.assign (v := .int .i64 ((readI ((linesOf y_5.jt).getD i [])).1)) rfl) ?_
      refine JL.pure rfl (PO.assign (v := .slice a_20 ((readI ((linesOf y_5.jt).getD i [])).2.1.length) c_21) rfl) ?_
      refine JL.pure rfl (PO.assign (v := .bool ((readI ((linesOf y_5.jt).getD i [])).2.2)) rfl) ?_
      refine JL.nil ?_
      refine JQ.seq ?_
      refine JC.seq ?_
      refine JC.seq ?_
      refine JC.region ?_
      refine JL.pure rfl (PO.move (v := .bool ((readI ((linesOf y_5.jt).getD i [])).2.2)) rfl) ?_
      refine JL.pure rfl (PO.not rfl) ?_
      refine JL.pure rfl (PO.move (v := .bool (!((readI ((linesOf y_5.jt).getD i [])).2.2))) rfl) ?_
      rcases Bool.eq_false_or_eq_true ((readI ((linesOf y_5.jt).getD i [])).2.2) with h_22 | h_22
      · skip
        refine JL.guardOn rfl rfl rfl (congrArg Value.bool (congrArg Bool.not h_22)) (JO.ofLO (LO.pure (PO.move (v := .int .i64 ((readI ((linesOf y_5.jt).getD i [])).1)) rfl))) ?_
        rintro _ _ ⟨rfl, rfl⟩
        refine JL.guardOn rfl rfl rfl (congrArg Value.bool (congrArg Bool.not h_22)) (JO.ofLO (LO.pure (PO.move (v := .int .i64 ((y_5.l.getD q o0).t.seq)) he_14))) ?_
        rintro _ _ ⟨rfl, rfl⟩
        refine JL.guardOn rfl rfl rfl (congrArg Value.bool (congrArg Bool.not h_22)) (JO.ofLO (LO.pure (PO.gtr rfl rfl))) ?_
        rintro _ _ ⟨rfl, rfl⟩
        refine JL.pure rfl (PO.pickF (v := .bool (decide (((y_5.l.getD q o0).t.seq) < ((readI ((linesOf y_5.jt).getD i [])).1)))) (congrArg Value.bool (congrArg Bool.not h_22)) rfl) ?_
        refine JL.nil ?_
        refine JQ.seq ?_
        by_cases h_23 : ((y_5.l.getD q o0).t.seq) < ((readI ((linesOf y_5.jt).getD i [])).1)
        · skip
          refine JC.condT (congrArg Value.bool (decide_eq_true h_23)) ?_
          refine JC.exit ?_
          refine JQ.thenExit ?_
          refine JQ.blockO rfl ?_
          refine JQ.thenExit ?_
          refine JQ.thenExit ?_
          refine JQ.blockE ?_
          refine JQ.seq ?_
          refine JC.seq ?_
          refine JC.region ?_
          refine JL.pure rfl (PO.fieldAddr fo31_1 he_12) ?_
          refine JL.pure rfl (PO.fieldAddr fo29_0 rfl) ?_
          refine JL.ld rfl (LO.load1 5 (v := str y_5.jt) rfl rfl Tryz.isAgg9 rfl) ?_
          refine JL.pure rfl (PO.move (v := .int .i64 ((n : Nat) : Int)) he_16) ?_
          refine JL.pure rfl (PO.sliceSl (i := n) Tryz.underlying9 rfl rfl (by omega)) ?_
          refine JL.pure rfl (PO.fieldAddr fo31_1 he_12) ?_
          refine JL.pure rfl (PO.fieldAddr fo29_0 rfl) ?_
          refine JL.op rfl (JO.store 5 (vs := [str (y_5.jt.drop n)]) (cs' := [.slice y_5.a y_5.l.length y_5.c, str (y_5.jt.drop n), .int .i64 y_5.js]) rfl rfl rfl rfl Tryz.sizeOf9 rfl rfl (Nat.le_of_ble_eq_true rfl) rfl) ?_
          rintro _ _ rfl
          refine JL.nil ?_
          refine JQ.seq ?_
          refine JC.seq ?_
          refine JC.region ?_
          refine JL.pure rfl (PO.fieldAddr fo31_1 he_12) ?_
          refine JL.pure rfl (PO.fieldAddr fo29_1 rfl) ?_
          refine JL.ld rfl (LO.load1 5 (v := .int .i64 y_5.js) rfl rfl Tryz.isAgg3 rfl) ?_
          refine JL.pure rfl (PO.move (v := .int .i64 ((n : Nat) : Int)) he_16) ?_
          refine JL.pure rfl (PO.sub (c := y_5.js - ((n : Nat) : Int)) rfl rfl (wr (by omega))) ?_
          refine JL.pure rfl (PO.fieldAddr fo31_1 he_12) ?_
          refine JL.pure rfl (PO.fieldAddr fo29_0 rfl) ?_
          refine JL.ld rfl (LO.load1 5 (v := str (y_5.jt.drop n)) rfl rfl Tryz.isAgg9 rfl) ?_
          refine JL.pure rfl (PO.lenS Tryz.underlying9 rfl) ?_
          refine JL.op rfl (JO.call [] Tryz.call59 rfl (Y_specbro (y_5.js - ((n : Nat) : Int)) ((y_5.jt.drop n).length)) rfl (fun _ _ => trivial)) ?_
          rintro _ _ ⟨_, ⟨rfl, rfl⟩, rfl⟩
          have hbro23 := bro_le (y_5.js - ((n : Nat) : Int)) ((y_5.jt.drop n).length)
          refine JL.pure rfl (PO.fieldAddr fo31_1 he_12) ?_
          refine JL.pure rfl (PO.fieldAddr fo29_1 rfl) ?_
          refine JL.op rfl (JO.store 5 (vs := [.int .i64 ((bro (y_5.js - ((n : Nat) : Int)) ((y_5.jt.drop n).length) : Nat) : Int)]) (cs' := [.slice y_5.a y_5.l.length y_5.c, str (y_5.jt.drop n), .int .i64 ((bro (y_5.js - ((n : Nat) : Int)) ((y_5.jt.drop n).length) : Nat) : Int)]) rfl rfl rfl rfl Tryz.sizeOf3 rfl rfl (Nat.le_of_ble_eq_true rfl) rfl) ?_
          rintro _ _ rfl
          refine JL.nil ?_
          refine JQ.seq ?_
          refine JC.seq ?_
          refine JC.region ?_
          refine JL.ld rfl (LO.loadK 5 (vs := [.slice y_5.a y_5.l.length y_5.c, str (y_5.jt.drop n), .int .i64 ((bro (y_5.js - ((n : Nat) : Int)) ((y_5.jt.drop n).length) : Nat) : Int)]) rfl he_12 Tryz.isAgg31 Tryz.sizeOf31 rfl rfl) ?_
          refine JL.op rfl (JO.store 4 (vs := [.slice y_5.a y_5.l.length y_5.c, str (y_5.jt.drop n), .int .i64 ((bro (y_5.js - ((n : Nat) : Int)) ((y_5.jt.drop n).length) : Nat) : Int)]) (cs' := [.slice y_5.a y_5.l.length y_5.c, str (y_5.jt.drop n), .int .i64 ((bro (y_5.js - ((n : Nat) : Int)) ((y_5.jt.drop n).length) : Nat) : Int)]) rfl he_13 rfl rfl Tryz.sizeOf31 rfl rfl (Nat.le_of_ble_eq_true rfl) rfl) ?_
          rintro _ _ rfl
          refine JL.nil ?_
          refine JQ.seq ?_
          refine JC.ret ?_
          refine JQ.ghost (L' := [Res.rows (rdsOS y_5.a y_5.c y_5.l), Res.row (.slice a_20 ((readI ((linesOf y_5.jt).getD i [])).2.1.length) c_21) 48 2 (((readI ((linesOf y_5.jt).getD i [])).2.1).length) (((readI ((linesOf y_5.jt).getD i [])).2.1).flatMap encC), rS a_9 c_10 (linesOf y_5.jt), bk b_4 31 [.slice y_5.a y_5.l.length y_5.c, str (y_5.jt.drop n), .int .i64 ((bro (y_5.js - ((n : Nat) : Int)) ((y_5.jt.drop n).length) : Nat) : Int)], bk b_3 31 [.slice y_5.a y_5.l.length y_5.c, str (y_5.jt.drop n), .int .i64 ((bro (y_5.js - ((n : Nat) : Int)) ((y_5.jt.drop n).length) : Nat) : Int)]]) (fun w hw => hw.consR (r := ⟨.slice y_5.a y_5.l.length y_5.c, 60, 3, y_5.l.length, y_5.l.flatMap encO⟩) (A := y_5.l.flatMap rdsO) [2, 2] rfl) ?_
          refine Done.one (.inl rfl) rfl (RV.cell1 (LO.loadK 3 (vs := [.slice y_5.a y_5.l.length y_5.c, str (y_5.jt.drop n), .int .i64 ((bro (y_5.js - ((n : Nat) : Int)) ((y_5.jt.drop n).length) : Nat) : Int)]) rfl he_13 Tryz.isAgg31 Tryz.sizeOf31 rfl rfl) ⟨_, he_13⟩) (List.sublist_append_left [Res.rows (rdsOS y_5.a y_5.c y_5.l)] [Res.row (.slice a_20 ((readI ((linesOf y_5.jt).getD i [])).2.1.length) c_21) 48 2 (((readI ((linesOf y_5.jt).getD i [])).2.1).length) (((readI ((linesOf y_5.jt).getD i [])).2.1).flatMap encC), rS a_9 c_10 (linesOf y_5.jt), bk b_4 31 [.slice y_5.a y_5.l.length y_5.c, str (y_5.jt.drop n), .int .i64 ((bro (y_5.js - ((n : Nat) : Int)) ((y_5.jt.drop n).length) : Nat) : Int)], bk b_3 31 [.slice y_5.a y_5.l.length y_5.c, str (y_5.jt.drop n), .int .i64 ((bro (y_5.js - ((n : Nat) : Int)) ((y_5.jt.drop n).length) : Nat) : Int)]]) ?_
          have hn : n = trimL d.dat := by unfold trimL; show n = trimN (mostOf d.dat) (linesOf d.jt); rw [← hyt, ← hmost]; first | (rw [trimN_step hlt, if_pos (by first | exact .inl (by assumption) | exact .inr (by assumption))] at hR; exact hR) | (rw [show (linesOf y_5.jt).drop i = [] from List.drop_of_length_le (by omega), trimN] at hR; exact hR)
          have hok : diskOk d.dat = true := by rw [← hy_6]; exact h_7
          exact ⟨(⟨y_5.a, y_5.c, y_5.l, y_5.jt.drop n, ((bro (y_5.js - ((n : Nat) : Int)) ((y_5.jt.drop n).length) : Nat) : Int)⟩ : DX), by rw [DD.trim, if_pos hok, ← hn, ← hy_6] <;> rfl, rfl, rfl⟩
        · skip
          refine JC.condF (congrArg Value.bool (decide_eq_false h_23)) ?_
          refine JC.skip ?_
          refine JQ.seq ?_
          refine JC.region ?_
          refine JL.pure rfl (PO.move (v := .int .i64 ((n : Nat) : Int)) he_16) ?_
          refine JL.pure rfl (PO.move (v := .slice a_9 ((linesOf y_5.jt).length) c_10) he_15) ?_
          refine JL.pure rfl (PO.move (v := .int .i64 ((i : Nat) : Int)) he_17) ?_
          refine JL.pure rfl (PO.indexAddrV (i := i) Tryz.underlying71 Tryz.sizeOf9 hr_19 hr_19b rfl rfl (by omega)) ?_
          refine JL.ld rfl (LO.loadR1 1 (v := str ((linesOf y_5.jt).getD i [])) rfl rfl Tryz.isAgg9 (atS (by omega))) ?_
          refine JL.pure rfl (PO.lenS Tryz.underlying9 rfl) ?_
          refine JL.pure rfl (PO.add (c := ((n + (((linesOf y_5.jt).getD i []).length) : Nat) : Int)) rfl rfl (wr (by omega))) ?_
          refine JL.pure rfl (PO.assign (v := .int .i64 ((n + (((linesOf y_5.jt).getD i []).length) : Nat) : Int)) rfl) ?_
          refine JL.nil ?_
          refine JQ.blockN ?_
          refine JQ.seq ?_
          refine JC.region ?_
          refine JL.pure rfl (PO.move (v := .int .i64 ((i : Nat) : Int)) he_17) ?_
          refine JL.pure rfl (PO.add (c := ((i + 1 : Nat) : Int)) rfl rfl (wr (by omega))) ?_
          refine JL.pure rfl (PO.assign (v := .int .i64 ((i + 1 : Nat) : Int)) rfl) ?_
          refine JL.nil ?_
          refine JQ.pick [1, 1, 1, 1, 1] (A := [rS a_9 c_10 (linesOf y_5.jt), Res.row (.slice y_5.a y_5.l.length y_5.c) 60 3 y_5.l.length (y_5.l.flatMap encO), Res.rows (y_5.l.flatMap rdsO), bk b_4 31 [.slice none 0 0, str [], .int .i64 0], bk b_3 31 [.slice y_5.a y_5.l.length y_5.c, str y_5.jt, .int .i64 y_5.js]]) rfl ?_
          refine JQ.again ((linesOf y_5.jt).length - (i + 1)) (by omega) ⟨i + 1, n + (((linesOf y_5.jt).getD i []).length), by omega, (by rw [trimN_step hlt, if_neg (by rintro (h_ | h_); (rw [show (readI ((linesOf y_5.jt).getD i [])).2.2 = true by assumption] at h_; cases h_); omega)] at hR; omega), he_12, he_13, he_14, he_15, rfl, rfl, rfl, rfl⟩
      · skip
        refine JL.guardOff (b := true) rfl rfl rfl (congrArg Value.bool (congrArg Bool.not h_22)) ?_
        refine JL.guardOff (b := true) rfl rfl rfl (congrArg Value.bool (congrArg Bool.not h_22)) ?_
        refine JL.guardOff (b := true) rfl rfl rfl (congrArg Value.bool (congrArg Bool.not h_22)) ?_
        refine JL.pure rfl (PO.pickT (v := .bool true) (congrArg Value.bool (congrArg Bool.not h_22)) rfl) ?_
        refine JL.nil ?_
        refine JQ.seq ?_
        refine JC.condT (congrArg Value.bool rfl) ?_
        refine JC.exit ?_
        refine JQ.thenExit ?_
        refine JQ.blockO rfl ?_
        refine JQ.thenExit ?_
        refine JQ.thenExit ?_
        refine JQ.blockE ?_
        refine JQ.seq ?_
        refine JC.seq ?_
        refine JC.region ?_
        refine JL.pure rfl (PO.fieldAddr fo31_1 he_12) ?_
        refine JL.pure rfl (PO.fieldAddr fo29_0 rfl) ?_
        refine JL.ld rfl (LO.load1 5 (v := str y_5.jt) rfl rfl Tryz.isAgg9 rfl) ?_
        refine JL.pure rfl (PO.move (v := .int .i64 ((n : Nat) : Int)) he_16) ?_
        refine JL.pure rfl (PO.sliceSl (i := n) Tryz.underlying9 rfl rfl (by omega)) ?_
        refine JL.pure rfl (PO.fieldAddr fo31_1 he_12) ?_
        refine JL.pure rfl (PO.fieldAddr fo29_0 rfl) ?_
        refine JL.op rfl (JO.store 5 (vs := [str (y_5.jt.drop n)]) (cs' := [.slice y_5.a y_5.l.length y_5.c, str (y_5.jt.drop n), .int .i64 y_5.js]) rfl rfl rfl rfl Tryz.sizeOf9 rfl rfl (Nat.le_of_ble_eq_true rfl) rfl) ?_
        rintro _ _ rfl
        refine JL.nil ?_
        refine JQ.seq ?_
        refine JC.seq ?_
        refine JC.region ?_
        refine JL.pure rfl (PO.fieldAddr fo31_1 he_12) ?_
        refine JL.pure rfl (PO.fieldAddr fo29_1 rfl) ?_
        refine JL.ld rfl (LO.load1 5 (v := .int .i64 y_5.js) rfl rfl Tryz.isAgg3 rfl) ?_
        refine JL.pure rfl (PO.move (v := .int .i64 ((n : Nat) : Int)) he_16) ?_
        refine JL.pure rfl (PO.sub (c := y_5.js - ((n : Nat) : Int)) rfl rfl (wr (by omega))) ?_
        refine JL.pure rfl (PO.fieldAddr fo31_1 he_12) ?_
        refine JL.pure rfl (PO.fieldAddr fo29_0 rfl) ?_
        refine JL.ld rfl (LO.load1 5 (v := str (y_5.jt.drop n)) rfl rfl Tryz.isAgg9 rfl) ?_
        refine JL.pure rfl (PO.lenS Tryz.underlying9 rfl) ?_
        refine JL.op rfl (JO.call [] Tryz.call59 rfl (Y_specbro (y_5.js - ((n : Nat) : Int)) ((y_5.jt.drop n).length)) rfl (fun _ _ => trivial)) ?_
        rintro _ _ ⟨_, ⟨rfl, rfl⟩, rfl⟩
        have hbro23 := bro_le (y_5.js - ((n : Nat) : Int)) ((y_5.jt.drop n).length)
        refine JL.pure rfl (PO.fieldAddr fo31_1 he_12) ?_
        refine JL.pure rfl (PO.fieldAddr fo29_1 rfl) ?_
        refine JL.op rfl (JO.store 5 (vs := [.int .i64 ((bro (y_5.js - ((n : Nat) : Int)) ((y_5.jt.drop n).length) : Nat) : Int)]) (cs' := [.slice y_5.a y_5.l.length y_5.c, str (y_5.jt.drop n), .int .i64 ((bro (y_5.js - ((n : Nat) : Int)) ((y_5.jt.drop n).length) : Nat) : Int)]) rfl rfl rfl rfl Tryz.sizeOf3 rfl rfl (Nat.le_of_ble_eq_true rfl) rfl) ?_
        rintro _ _ rfl
        refine JL.nil ?_
        refine JQ.seq ?_
        refine JC.seq ?_
        refine JC.region ?_
        refine JL.ld rfl (LO.loadK 5 (vs := [.slice y_5.a y_5.l.length y_5.c, str (y_5.jt.drop n), .int .i64 ((bro (y_5.js - ((n : Nat) : Int)) ((y_5.jt.drop n).length) : Nat) : Int)]) rfl he_12 Tryz.isAgg31 Tryz.sizeOf31 rfl rfl) ?_
        refine JL.op rfl (JO.store 4 (vs := [.slice y_5.a y_5.l.length y_5.c, str (y_5.jt.drop n), .int .i64 ((bro (y_5.js - ((n : Nat) : Int)) ((y_5.jt.drop n).length) : Nat) : Int)]) (cs' := [.slice y_5.a y_5.l.length y_5.c, str (y_5.jt.drop n), .int .i64 ((bro (y_5.js - ((n : Nat) : Int)) ((y_5.jt.drop n).length) : Nat) : Int)]) rfl he_13 rfl rfl Tryz.sizeOf31 rfl rfl (Nat.le_of_ble_eq_true rfl) rfl) ?_
        rintro _ _ rfl
        refine JL.nil ?_
        refine JQ.seq ?_
        refine JC.ret ?_
        refine JQ.ghost (L' := [Res.rows (rdsOS y_5.a y_5.c y_5.l), Res.row (.slice a_20 ((readI ((linesOf y_5.jt).getD i [])).2.1.length) c_21) 48 2 (((readI ((linesOf y_5.jt).getD i [])).2.1).length) (((readI ((linesOf y_5.jt).getD i [])).2.1).flatMap encC), rS a_9 c_10 (linesOf y_5.jt), bk b_4 31 [.slice y_5.a y_5.l.length y_5.c, str (y_5.jt.drop n), .int .i64 ((bro (y_5.js - ((n : Nat) : Int)) ((y_5.jt.drop n).length) : Nat) : Int)], bk b_3 31 [.slice y_5.a y_5.l.length y_5.c, str (y_5.jt.drop n), .int .i64 ((bro (y_5.js - ((n : Nat) : Int)) ((y_5.jt.drop n).length) : Nat) : Int)]]) (fun w hw => hw.consR (r := ⟨.slice y_5.a y_5.l.length y_5.c, 60, 3, y_5.l.length, y_5.l.flatMap encO⟩) (A := y_5.l.flatMap rdsO) [2, 2] rfl) ?_
        refine Done.one (.inl rfl) rfl (RV.cell1 (LO.loadK 3 (vs := [.slice y_5.a y_5.l.length y_5.c, str (y_5.jt.drop n), .int .i64 ((bro (y_5.js - ((n : Nat) : Int)) ((y_5.jt.drop n).length) : Nat) : Int)]) rfl he_13 Tryz.isAgg31 Tryz.sizeOf31 rfl rfl) ⟨_, he_13⟩) (List.sublist_append_left [Res.rows (rdsOS y_5.a y_5.c y_5.l)] [Res.row (.slice a_20 ((readI ((linesOf y_5.jt).getD i [])).2.1.length) c_21) 48 2 (((readI ((linesOf y_5.jt).getD i [])).2.1).length) (((readI ((linesOf y_5.jt).getD i [])).2.1).flatMap encC), rS a_9 c_10 (linesOf y_5.jt), bk b_4 31 [.slice y_5.a y_5.l.length y_5.c, str (y_5.jt.drop n), .int .i64 ((bro (y_5.js - ((n : Nat) : Int)) ((y_5.jt.drop n).length) : Nat) : Int)], bk b_3 31 [.slice y_5.a y_5.l.length y_5.c, str (y_5.jt.drop n), .int .i64 ((bro (y_5.js - ((n : Nat) : Int)) ((y_5.jt.drop n).length) : Nat) : Int)]]) ?_
        have hn : n = trimL d.dat := by unfold trimL; show n = trimN (mostOf d.dat) (linesOf d.jt); rw [← hyt, ← hmost]; first | (rw [trimN_step hlt, if_pos (by first | exact .inl (by assumption) | exact .inr (by assumption))] at hR; exact hR) | (rw [show (linesOf y_5.jt).drop i = [] from List.drop_of_length_le (by omega), trimN] at hR; exact hR)
        have hok : diskOk d.dat = true := by rw [← hy_6]; exact h_7
        exact ⟨(⟨y_5.a, y_5.c, y_5.l, y_5.jt.drop n, ((bro (y_5.js - ((n : Nat) : Int)) ((y_5.jt.drop n).length) : Nat) : Int)⟩ : DX), by rw [DD.trim, if_pos hok, ← hn, ← hy_6] <;> rfl, rfl, rfl⟩
    · skip
      refine JC.condF (congrArg Value.bool (decide_eq_false h_18)) ?_
      refine JC.exit ?_
      refine JQ.thenExit ?_
      refine JQ.thenExit ?_
      refine JQ.blockE ?_
      refine JQ.seq ?_
      refine JC.seq ?_
      refine JC.region ?_
      refine JL.pure rfl (PO.fieldAddr fo31_1 he_12) ?_
      refine JL.pure rfl (PO.fieldAddr fo29_0 rfl) ?_
      refine JL.ld rfl (LO.load1 4 (v := str y_5.jt) rfl rfl Tryz.isAgg9 rfl) ?_
      refine JL.pure rfl (PO.move (v := .int .i64 ((n : Nat) : Int)) he_16) ?_
      refine JL.pure rfl (PO.sliceSl (i := n) Tryz.underlying9 rfl rfl (by omega)) ?_
      refine JL.pure rfl (PO.fieldAddr fo31_1 he_12) ?_
      refine JL.pure rfl (PO.fieldAddr fo29_0 rfl) ?_
      refine JL.op rfl (JO.store 4 (vs := [str (y_5.jt.drop n)]) (cs' := [.slice y_5.a y_5.l.length y_5.c, str (y_5.jt.drop n), .int .i64 y_5.js]) rfl rfl rfl rfl Tryz.sizeOf9 rfl rfl (Nat.le_of_ble_eq_true rfl) rfl) ?_
      rintro _ _ rfl
      refine JL.nil ?_
      refine JQ.seq ?_
      refine JC.seq ?_
      refine JC.region ?_
      refine JL.pure rfl (PO.fieldAddr fo31_1 he_12) ?_
      refine JL.pure rfl (PO.fieldAddr fo29_1 rfl) ?_
      refine JL.ld rfl (LO.load1 4 (v := .int .i64 y_5.js) rfl rfl Tryz.isAgg3 rfl) ?_
      refine JL.pure rfl (PO.move (v := .int .i64 ((n : Nat) : Int)) he_16) ?_
      refine JL.pure rfl (PO.sub (c := y_5.js - ((n : Nat) : Int)) rfl rfl (wr (by omega))) ?_
      refine JL.pure rfl (PO.fieldAddr fo31_1 he_12) ?_
      refine JL.pure rfl (PO.fieldAddr fo29_0 rfl) ?_
      refine JL.ld rfl (LO.load1 4 (v := str (y_5.jt.drop n)) rfl rfl Tryz.isAgg9 rfl) ?_
      refine JL.pure rfl (PO.lenS Tryz.underlying9 rfl) ?_
      refine JL.op rfl (JO.call [] Tryz.call59 rfl (Y_specbro (y_5.js - ((n : Nat) : Int)) ((y_5.jt.drop n).length)) rfl (fun _ _ => trivial)) ?_
      rintro _ _ ⟨_, ⟨rfl, rfl⟩, rfl⟩
      have hbro23 := bro_le (y_5.js - ((n : Nat) : Int)) ((y_5.jt.drop n).length)
      refine JL.pure rfl (PO.fieldAddr fo31_1 he_12) ?_
      refine JL.pure rfl (PO.fieldAddr fo29_1 rfl) ?_
      refine JL.op rfl (JO.store 4 (vs := [.int .i64 ((bro (y_5.js - ((n : Nat) : Int)) ((y_5.jt.drop n).length) : Nat) : Int)]) (cs' := [.slice y_5.a y_5.l.length y_5.c, str (y_5.jt.drop n), .int .i64 ((bro (y_5.js - ((n : Nat) : Int)) ((y_5.jt.drop n).length) : Nat) : Int)]) rfl rfl rfl rfl Tryz.sizeOf3 rfl rfl (Nat.le_of_ble_eq_true rfl) rfl) ?_
      rintro _ _ rfl
      refine JL.nil ?_
      refine JQ.seq ?_
      refine JC.seq ?_
      refine JC.region ?_
      refine JL.ld rfl (LO.loadK 4 (vs := [.slice y_5.a y_5.l.length y_5.c, str (y_5.jt.drop n), .int .i64 ((bro (y_5.js - ((n : Nat) : Int)) ((y_5.jt.drop n).length) : Nat) : Int)]) rfl he_12 Tryz.isAgg31 Tryz.sizeOf31 rfl rfl) ?_
      refine JL.op rfl (JO.store 3 (vs := [.slice y_5.a y_5.l.length y_5.c, str (y_5.jt.drop n), .int .i64 ((bro (y_5.js - ((n : Nat) : Int)) ((y_5.jt.drop n).length) : Nat) : Int)]) (cs' := [.slice y_5.a y_5.l.length y_5.c, str (y_5.jt.drop n), .int .i64 ((bro (y_5.js - ((n : Nat) : Int)) ((y_5.jt.drop n).length) : Nat) : Int)]) rfl he_13 rfl rfl Tryz.sizeOf31 rfl rfl (Nat.le_of_ble_eq_true rfl) rfl) ?_
      rintro _ _ rfl
      refine JL.nil ?_
      refine JQ.seq ?_
      refine JC.ret ?_
      refine JQ.ghost (L' := [Res.rows (rdsOS y_5.a y_5.c y_5.l), rS a_9 c_10 (linesOf y_5.jt), bk b_4 31 [.slice y_5.a y_5.l.length y_5.c, str (y_5.jt.drop n), .int .i64 ((bro (y_5.js - ((n : Nat) : Int)) ((y_5.jt.drop n).length) : Nat) : Int)], bk b_3 31 [.slice y_5.a y_5.l.length y_5.c, str (y_5.jt.drop n), .int .i64 ((bro (y_5.js - ((n : Nat) : Int)) ((y_5.jt.drop n).length) : Nat) : Int)]]) (fun w hw => hw.consR (r := ⟨.slice y_5.a y_5.l.length y_5.c, 60, 3, y_5.l.length, y_5.l.flatMap encO⟩) (A := y_5.l.flatMap rdsO) [1, 1] rfl) ?_
      refine Done.one (.inl rfl) rfl (RV.cell1 (LO.loadK 2 (vs := [.slice y_5.a y_5.l.length y_5.c, str (y_5.jt.drop n), .int .i64 ((bro (y_5.js - ((n : Nat) : Int)) ((y_5.jt.drop n).length) : Nat) : Int)]) rfl he_13 Tryz.isAgg31 Tryz.sizeOf31 rfl rfl) ⟨_, he_13⟩) (List.sublist_append_left [Res.rows (rdsOS y_5.a y_5.c y_5.l)] [rS a_9 c_10 (linesOf y_5.jt), bk b_4 31 [.slice y_5.a y_5.l.length y_5.c, str (y_5.jt.drop n), .int .i64 ((bro (y_5.js - ((n : Nat) : Int)) ((y_5.jt.drop n).length) : Nat) : Int)], bk b_3 31 [.slice y_5.a y_5.l.length y_5.c, str (y_5.jt.drop n), .int .i64 ((bro (y_5.js - ((n : Nat) : Int)) ((y_5.jt.drop n).length) : Nat) : Int)]]) ?_
      have hn : n = trimL d.dat := by unfold trimL; show n = trimN (mostOf d.dat) (linesOf d.jt); rw [← hyt, ← hmost]; first | (rw [trimN_step hlt, if_pos (by first | exact .inl (by assumption) | exact .inr (by assumption))] at hR; exact hR) | (rw [show (linesOf y_5.jt).drop i = [] from List.drop_of_length_le (by omega), trimN] at hR; exact hR)
      have hok : diskOk d.dat = true := by rw [← hy_6]; exact h_7
      exact ⟨(⟨y_5.a, y_5.c, y_5.l, y_5.jt.drop n, ((bro (y_5.js - ((n : Nat) : Int)) ((y_5.jt.drop n).length) : Nat) : Int)⟩ : DX), by rw [DD.trim, if_pos hok, ← hn, ← hy_6] <;> rfl, rfl, rfl⟩
  · skip
    refine JC.condT (congrArg Value.bool (congrArg Bool.not h_7)) ?_
    refine JC.seq ?_
    refine JC.region ?_
    refine JL.ld rfl (LO.loadK 2 (vs := [.slice y_5.a y_5.l.length y_5.c, str y_5.jt, .int .i64 y_5.js]) rfl rfl Tryz.isAgg31 Tryz.sizeOf31 rfl rfl) ?_
    refine JL.op rfl (JO.store 1 (vs := [.slice y_5.a y_5.l.length y_5.c, str y_5.jt, .int .i64 y_5.js]) (cs' := [.slice y_5.a y_5.l.length y_5.c, str y_5.jt, .int .i64 y_5.js]) rfl rfl rfl rfl Tryz.sizeOf31 rfl rfl (Nat.le_of_ble_eq_true rfl) rfl) ?_
    rintro _ _ rfl
    refine JL.nil ?_
    refine JQ.seq ?_
    refine JC.ret ?_
    refine JQ.thenRet ?_
    refine Done.one (.inl rfl) rfl (RV.cell1 (LO.loadK 1 (vs := [.slice y_5.a y_5.l.length y_5.c, str y_5.jt, .int .i64 y_5.js]) rfl rfl Tryz.isAgg31 Tryz.sizeOf31 rfl rfl) ⟨_, rfl⟩) (List.sublist_append_left [Res.rows (rdsD y_5)] [bk b_4 31 [.slice y_5.a y_5.l.length y_5.c, str y_5.jt, .int .i64 y_5.js], bk b_3 31 [.slice y_5.a y_5.l.length y_5.c, str y_5.jt, .int .i64 y_5.js]]) ?_
    exact ⟨y_5, by rw [hy_6]; exact (if_neg (by rw [← hy_6, h_7]; exact Bool.false_ne_true)).symm, rfl, rfl⟩

end Go.Proofs.YtjncpgcccgdeiaaGreatDoor

set_option linter.unusedSimpArgs false
set_option linter.unusedVariables false
set_option linter.unnecessarySimpa false
namespace Go.Proofs.YtjncpgcccgdeiaaGreatDoor
open Go Go.RowKit
theorem disk_two {d : DX} (h : diskOk d.dat = true) : d.l.length = 2 := by
  rw [diskOk_dat] at h
  unfold diskOkF at h
  simp only [Bool.and_eq_true, decide_eq_true_eq] at h
  omega
theorem diskOk_slot {d : DD} (h : diskOk d = true) {i : Nat} (hi : i < d.slots.length) : slotG (d.slots.getD i o0.t) = true := by
  unfold diskOk diskOkF at h
  simp only [Bool.and_eq_true] at h
  exact rall_get h.2.2.1 hi
theorem bestF_whole (f : Nat → SD) : ∀ (n q : Nat), bestF f n = ((q : Nat) : Int) → (f q).whole = true
  | 0, q, h => by simp only [bestF] at h; omega
  | j + 1, q, h => by
    unfold bestF at h
    split at h
    · rename_i hc
      have : q = j := by omega
      rw [this]
      exact hc.1
    · exact bestF_whole f j q h
theorem best_whole {d : DD} {q : Nat} (hq : bestD d = ((q : Nat) : Int)) : (d.slots.getD q o0.t).whole = true := bestF_whole _ _ _ hq
theorem best_ok {d : DD} (h : diskOk d = true) : (d.slots.getD (bestD d).toNat o0.t).whole = true ∧ 0 ≤ mostOf d ∧ mostOf d ≤ 99999 ∧ storeOk (d.slots.getD (bestD d).toNat o0.t).cells = true := by
  obtain ⟨q, hq, hl⟩ := diskOk_best h
  have hw := best_whole hq
  have hs := diskOk_slot h hl
  unfold mostOf
  rw [hq, Int.toNat_natCast]
  rw [slotG, hw] at hs
  simp only [Bool.not_true, Bool.false_or, Bool.and_eq_true, within, decide_eq_true_eq] at hs
  exact ⟨hw, hs.1.1, hs.1.2, hs.2⟩
theorem most_range {d : DD} (h : diskOk d = true) : 0 ≤ mostOf d ∧ mostOf d ≤ 99999 := ⟨(best_ok h).2.1, (best_ok h).2.2.1⟩
theorem bro_max {x : Int} {k : Nat} (h : x ≤ ((k : Nat) : Int)) : max 0 x = ((bro x k : Nat) : Int) := by
  unfold bro
  omega
theorem trim_dat {y d : DX} {n : Nat} (hy : y.dat = d.dat) (hok : diskOk d.dat = true) (hn : n = trimL d.dat) (hj : d.js ≤ ((d.jt.length : Nat) : Int)) : (⟨y.a, y.c, y.l, d.jt.drop n, max 0 (d.js - ((n : Nat) : Int))⟩ : DX).dat = d.dat.trim := by
  have hle : n ≤ d.jt.length := by rw [hn]; exact trimN_le _ _
  rw [DD.trim, if_pos hok, ← hn]
  have h1 := congrArg DD.slots hy
  have h2 : max 0 (d.js - ((n : Nat) : Int)) = ((bro (d.js - ((n : Nat) : Int)) (d.jt.drop n).length : Nat) : Int) := bro_max (by rw [List.length_drop]; omega)
  simp only [DX.dat] at *
  rw [h1, h2]
/- what the records make of a store -/
theorem trim_slots (d : DD) : d.trim.slots = d.slots := by unfold DD.trim; split <;> rfl
theorem DD.lim.of {d e : DD} {n : Nat} (h : d.lim n) (he : e.slots = d.slots) : e.lim n := ⟨by rw [he]; exact h.l0, by rw [he]; exact h.l1⟩
theorem trim_lim {d : DD} {n : Nat} (h : d.lim n) : d.trim.lim n := h.of (trim_slots d)
theorem trim_cnt {d : DD} {n : Nat} (h : cntV cntOd d.slots ≤ n) : cntV cntOd d.trim.slots ≤ n := by rw [trim_slots]; exact h
/- how great a recovered store is -/
section
variable {y : List RX} {j i : Nat} {s : List Cell}
end
/- a checkpoint -/
end Go.Proofs.YtjncpgcccgdeiaaGreatDoor

set_option linter.unusedSimpArgs false
set_option linter.unusedVariables false
set_option linter.unnecessarySimpa false
namespace Go.Proofs.YtjncpgcccgdeiaaGreatDoor
open Go Go.RowKit
attribute [local irreducible] JL JC JQ JO LO PO JA JX Ct

theorem Y_iBestN (d : DX) (hz : d.dat.okz) (hl : d.l.length ≤ 1000000000) (q : Nat) (hq : bestD d.dat = ((q : Nat) : Int)) : Ct Tryz.prog 48 [.agg #[.slice d.a d.l.length d.c, str d.jt, .int .i64 d.js]] [] (fun w => SeesA w (rdsD d)) (fun v A' => v = .int .i64 ((q : Nat) : Int) ∧ A' = []) :=
  (Y_iBest d hz hl).weak (fun _ h => h) fun v A' ⟨hv, hA⟩ => ⟨by rw [hv, hq], hA⟩

set_option maxRecDepth 4000 in
set_option maxHeartbeats 1000000 in
theorem Y_iTrim (d : DX) (hz : d.dat.okz) (hl : d.dat.lim 1000000000) :
    Ct Tryz.prog 14 [.agg #[.slice d.a d.l.length d.c, str d.jt, .int .i64 d.js]] [] (fun w => SeesA w (rdsD d) ∧ HexOk w) (fun v A' => ∃ y : DX, y.dat = d.dat.trim ∧ v = .agg #[.slice y.a y.l.length y.c, str y.jt, .int .i64 y.js] ∧ A' = [.rows (rdsD y)]) := by
  refine Ct.introL Tryz.func14 rfl Tryz.ntmps14 (Nat.le_of_ble_eq_true rfl) fun w0 hpre hlow => ?_
  have hs_1 : Sees w0 (.slice d.a d.l.length d.c) 3 d.l.length (d.l.flatMap encO) := (hpre.1).head
  have hi_2 : SeesA w0 (d.l.flatMap rdsO) := (hpre.1).tail
  have hjt := hz.k2
  have hdl : d.l.length ≤ 1000000000 := by have := hl.l0; simpa only [DX.dat, List.length_map] using this
  refine JC.seq ?_
  refine JC.region ?_
  refine JL.op rfl (JO.box (cs := [.slice d.a d.l.length d.c, str d.jt, .int .i64 d.js]) rfl rfl) ?_
  rintro _ _ ⟨b_3, rfl, rfl⟩
  refine JL.op rfl (JO.alloc (z := .agg #[.slice none 0 0, str [], .int .i64 0]) (cs := [.slice none 0 0, str [], .int .i64 0]) Tryz.zeroValue31 rfl) ?_
  rintro _ _ ⟨b_4, rfl, rfl⟩
  refine JL.nil ?_
  refine JQ.seq ?_
  refine JC.seq ?_
  refine JC.region ?_
  refine JL.ld rfl (LO.loadK 1 (vs := [.slice d.a d.l.length d.c, str d.jt, .int .i64 d.js]) rfl rfl Tryz.isAgg31 Tryz.sizeOf31 rfl rfl) ?_
  refine JL.op rfl (JO.call [] Tryz.call62 rfl (Z_implDiskclone d hl) rfl (fun w hw => hw.seeOutA hpre.1 nMA)) ?_
  rintro _ _ ⟨_, ⟨y_5, hy_6, rfl, rfl⟩, rfl⟩
  refine JL.op rfl (JO.alloc (z := .agg #[.slice none 0 0, str [], .int .i64 0]) (cs := [.slice none 0 0, str [], .int .i64 0]) Tryz.zeroValue31 rfl) ?_
  rintro _ _ ⟨b_7, rfl, rfl⟩
  refine JL.op rfl (JO.store 0 (vs := [.slice y_5.a y_5.l.length y_5.c, str y_5.jt, .int .i64 y_5.js]) (cs' := [.slice y_5.a y_5.l.length y_5.c, str y_5.jt, .int .i64 y_5.js]) rfl rfl rfl rfl Tryz.sizeOf31 rfl rfl (Nat.le_of_ble_eq_true rfl) rfl) ?_
  rintro _ _ rfl
  refine JL.nil ?_
  refine JQ.seq ?_
  refine JC.seq ?_
  refine JC.seq ?_
  refine JC.region ?_
  refine JL.ld rfl (LO.loadK 3 (vs := [.slice d.a d.l.length d.c, str d.jt, .int .i64 d.js]) rfl rfl Tryz.isAgg31 Tryz.sizeOf31 rfl rfl) ?_
  refine JL.op rfl (JO.call [] Tryz.call47 rfl (Y_implDiskOk d hz (by omega)) rfl (fun w hw => hw.seeOutA hpre.1 nMA)) ?_
  rintro _ _ ⟨_, ⟨rfl, rfl⟩, rfl⟩
  refine JL.pure rfl (PO.not rfl) ?_
  refine JL.nil ?_
  refine JQ.seq ?_
  rcases Bool.eq_false_or_eq_true (diskOk d.dat) with h_8 | h_8
  · skip
    refine JC.condF (congrArg Value.bool (congrArg Bool.not h_8)) ?_
    refine JC.skip ?_
    refine JQ.seq ?_
    refine JC.seq ?_
    refine JC.region ?_
    refine JL.pure rfl (PO.assign (v := .int .i64 0) rfl) ?_
    refine JL.nil ?_
    refine JQ.seq ?_
    refine JC.seq ?_
    refine JC.seq ?_
    obtain ⟨q, hq, hql⟩ := diskOk_best h_8
    have hql : q < d.l.length := by simpa only [DX.dat, List.length_map] using hql
    have hjr := diskOk_jour h_8
    have hjr2 : ((d.jt.length : Nat) : Int) ≤ 20000 ∧ 0 ≤ d.js ∧ d.js ≤ ((d.jt.length : Nat) : Int) := by have h_ : jourOk d.jt d.js = true := hjr; simpa only [jourOk, within, Bool.and_eq_true, decide_eq_true_eq, and_assoc] using h_
    have hmost : (d.l.getD q o0).t.seq = mostOf d.dat := by rw [mostOf, hq, Int.toNat_natCast]; exact congrArg SD.seq getD_map'.symm
    have hmr := most_range h_8
    have hl2 := disk_two h_8
    have htl := trimN_le (d.l.getD q o0).t.seq d.jt
    refine JC.region ?_
    refine JL.pure rfl (PO.fieldAddr fo31_1 rfl) ?_
    refine JL.pure rfl (PO.fieldAddr fo29_0 rfl) ?_
    refine JL.ld rfl (LO.load1 3 (v := str d.jt) rfl rfl Tryz.isAgg9 rfl) ?_
    refine JL.op rfl (JO.call [] Tryz.call63 rfl (Y_iLines d.jt (by omega)) rfl (fun _ _ => trivial)) ?_
    rintro _ _ ⟨_, ⟨a_9, c_10, rfl, rfl⟩, rfl⟩
    refine JL.pure rfl (PO.lenV Tryz.underlying71 rfl) ?_
    refine JL.pure rfl (PO.move (v := .int .i64 0) rfl) ?_
    refine JL.nil ?_
    refine JQ.seq ?_
    refine JC.block ?_
    refine JC.loop (fun k_ e_ L_ => ∃ i : Nat, ∃ n : Nat, (i ≤ (linesOf d.jt).length) ∧ (n + trimN (d.l.getD q o0).t.seq ((linesOf d.jt).drop i) = trimN (d.l.getD q o0).t.seq (linesOf d.jt)) ∧ e_ 1 = .pointer (some ⟨b_3, 0, none⟩) ∧ e_ 2 = .pointer (some ⟨b_4, 0, none⟩) ∧ e_ 3 = .pointer (some ⟨b_7, 0, none⟩) ∧ e_ 4 = .int .i64 ((n : Nat) : Int) ∧ e_ 19 = .slice a_9 ((linesOf d.jt).length) c_10 ∧ e_ 20 = .int .i64 (((linesOf d.jt).length : Nat) : Int) ∧ e_ 21 = .int .i64 ((i : Nat) : Int) ∧ L_ = [rS a_9 c_10 (linesOf d.jt), bk b_7 31 [.slice y_5.a y_5.l.length y_5.c, str y_5.jt, .int .i64 y_5.js], Res.rows (rdsD y_5), bk b_4 31 [.slice none 0 0, str [], .int .i64 0], bk b_3 31 [.slice d.a d.l.length d.c, str d.jt, .int .i64 d.js]] ∧ k_ = (linesOf d.jt).length - i) _ ⟨0, 0, by omega, (by simp), rfl, rfl, rfl, rfl, rfl, rfl, rfl, rfl, rfl⟩ ?_
    rintro _ e_11 _ ⟨i, n, hi, hR, he_12, he_13, he_14, he_15, he_16, he_17, he_18, rfl, rfl⟩
    refine JC.seq ?_
    refine JC.region ?_
    refine JL.pure rfl (PO.lss he_18 he_17) ?_
    refine JL.nil ?_
    refine JQ.seq ?_
    refine JC.seq ?_
    by_cases h_19 : ((i : Nat) : Int) < (((linesOf d.jt).length : Nat) : Int)
    · skip
      have hlt : i < (linesOf d.jt).length := by omega
      have hml : ((linesOf d.jt).getD i []).length ≤ 0 + d.jt.length := linesG_mem d.jt [] _ (getD_mem (d := []) hlt)
      have hll : (linesOf d.jt).length ≤ d.jt.length := linesG_len d.jt []
      refine JC.condT (congrArg Value.bool (decide_eq_true h_19)) ?_
      refine JC.skip ?_
      refine JQ.seq ?_
      refine JC.seq ?_
      refine JC.block ?_
      refine JC.seq ?_
      refine JC.region ?_
      refine JL.facts fun hst => ?_
      obtain ⟨hr_20, hr_20b, -⟩ := row_some 0 rfl (by omega) hst
      refine JL.pure rfl (PO.indexAddrV (i := i) Tryz.underlying71 Tryz.sizeOf9 hr_20 hr_20b he_16 he_18 (by omega)) ?_
      refine JL.ld rfl (LO.loadR1 0 (v := str ((linesOf d.jt).getD i [])) rfl rfl Tryz.isAgg9 (atS (by omega))) ?_
      refine JL.pure rfl (PO.assign (v := str ((linesOf d.jt).getD i [])) rfl) ?_
      refine JL.nil ?_
      refine JQ.seq ?_
      refine JC.seq ?_
      refine JC.region ?_
      refine JL.pure rfl (PO.move (v := str ((linesOf d.jt).getD i [])) rfl) ?_
      refine JL.op rfl (JO.call [] Tryz.call64 rfl (Y_iRead ((linesOf d.jt).getD i []) (by omega)) rfl (fun w hw => hw.hex hlow hpre.2)) ?_
      rintro _ _ ⟨_, ⟨a_21, c_22, rfl, rfl⟩, rfl⟩
      refine JL.pure rfl (PO.move (v := .tuple #[.int .i64 ((readI ((linesOf d.jt).getD i [])).1), .slice a_21 ((readI ((linesOf d.jt).getD i [])).2.1.length) c_22, .bool ((readI ((linesOf d.jt).getD i [])).2.2)]) rfl) ?_
      refine JL.pure rfl (PO.extract (v := .int .i64 ((readI ((linesOf d.jt).getD i [])).1)) rfl rfl) ?_
      refine JL.pure rfl (PO.extract (v := .slice a_21 ((readI ((linesOf d.jt).getD i [])).2.1.length) c_22) rfl rfl) ?_
      refine JL.pure rfl (PO.extract (v := .bool ((readI ((linesOf d.jt).getD i [])).2.2)) rfl rfl) ?_
      refine JL.pure rfl (PO.assign (v := .int .i64 ((readI ((linesOf d.jt).getD i [])).1)) rfl) ?_
      refine JL.pure rfl (PO.assign (v := .slice a_21 ((readI ((linesOf d.jt).getD i [])).2.1.length) c_22) rfl) ?_
      refine JL.pure rfl (PO.assign (v := .bool ((readI ((linesOf d.jt).getD i [])).2.2)) rfl) ?_
      refine JL.nil ?_
      refine JQ.seq ?_
      refine JC.seq ?_
      refine JC.seq ?_
      refine JC.regionA [Res.row (.slice a_21 ((readI ((linesOf d.jt).getD i [])).2.1.length) c_22) 48 2 (((readI ((linesOf d.jt).getD i [])).2.1).length) (((readI ((linesOf d.jt).getD i [])).2.1).flatMap encC), rS a_9 c_10 (linesOf d.jt), bk b_7 31 [.slice y_5.a y_5.l.length y_5.c, str y_5.jt, .int .i64 y_5.js], Res.rows (rdsD y_5), bk b_4 31 [.slice none 0 0, str [], .int .i64 0], bk b_3 31 [.slice d.a d.l.length d.c, str d.jt, .int .i64 d.js]] 1000 mixed (by simp) ?_
      refine JA.takeP 0 rfl (by kernel_rfl) (NP.th (NP.th (NP.bl (NP.th (NP.th (NP.bl (NP.th NP.body))))))) (by kernel_rfl) (by kernel_rfl) rfl (PO.move (v := .bool ((readI ((linesOf d.jt).getD i [])).2.2)) rfl) ?_
      refine JA.takeP 1 rfl (by kernel_rfl) (NP.th (NP.th (NP.bl (NP.th (NP.th (NP.bl (NP.th NP.body))))))) (by kernel_rfl) (by kernel_rfl) rfl (PO.not rfl) ?_
      refine JA.takeP 2 rfl (by kernel_rfl) (NP.th (NP.th (NP.bl (NP.th (NP.th (NP.bl (NP.th NP.body))))))) (by kernel_rfl) (by kernel_rfl) rfl (PO.move (v := .bool (!((readI ((linesOf d.jt).getD i [])).2.2))) rfl) ?_
      rcases Bool.eq_false_or_eq_true ((readI ((linesOf d.jt).getD i [])).2.2) with h_23 | h_23
      · skip
        refine JA.takeOnP 3 rfl (by kernel_rfl) (NP.th (NP.th (NP.bl (NP.th (NP.th (NP.bl (NP.th NP.body))))))) (by kernel_rfl) (by kernel_rfl) rfl rfl rfl (congrArg Value.bool (congrArg Bool.not h_23)) (PO.move (v := .int .i64 ((readI ((linesOf d.jt).getD i [])).1)) rfl) ?_
        refine JA.takeOnP 4 rfl (by kernel_rfl) (NP.th (NP.th (NP.bl (NP.th (NP.th (NP.bl (NP.th NP.body))))))) (by kernel_rfl) (by kernel_rfl) rfl rfl rfl (congrArg Value.bool (congrArg Bool.not h_23)) (PO.fieldAddr fo31_0 he_12) ?_
        refine JA.takeOn 5 rfl (by kernel_rfl) (NP.th (NP.th (NP.bl (NP.th (NP.th (NP.bl (NP.th NP.body))))))) (by kernel_rfl) (by kernel_rfl) (by kernel_rfl) rfl rfl rfl (congrArg Value.bool (congrArg Bool.not h_23)) (LO.load1 5 (v := .slice d.a d.l.length d.c) rfl rfl Tryz.isAgg28 rfl) ?_
        refine JA.takeOn 6 rfl (by kernel_rfl) (NP.th (NP.th (NP.bl (NP.th (NP.th (NP.bl (NP.th NP.body))))))) (by kernel_rfl) (by kernel_rfl) (by kernel_rfl) rfl rfl rfl (congrArg Value.bool (congrArg Bool.not h_23)) (LO.loadK 5 (vs := [.slice d.a d.l.length d.c, str d.jt, .int .i64 d.js]) rfl he_12 Tryz.isAgg31 Tryz.sizeOf31 rfl rfl) ?_
        refine JA.one (i := 7) (by kernel_rfl) ?_
        refine JX.opOnD rfl rfl rfl rfl (congrArg Value.bool (congrArg Bool.not h_23)) (JO.call [] Tryz.call48 rfl (Y_iBestN d hz (by omega) q hq) rfl (fun w hw => hw.seeOutA hpre.1 nMA)) ?_
        rintro _ _ ⟨_, ⟨rfl, rfl⟩, rfl⟩
        refine ⟨by simp, ?_⟩
        obtain ⟨hr_24, hr_24b, -⟩ := sees_some hs_1 (by omega)
        refine JA.takeOnP 8 rfl (by kernel_rfl) (NP.th (NP.th (NP.bl (NP.th (NP.th (NP.bl (NP.th NP.body))))))) (by kernel_rfl) (by kernel_rfl) rfl rfl rfl (congrArg Value.bool (congrArg Bool.not h_23)) (PO.indexAddrV (i := q) Tryz.underlying28 Tryz.sizeOf60 hr_24 hr_24b rfl rfl (by omega)) ?_
        refine JA.takeOnP 9 rfl (by kernel_rfl) (NP.th (NP.th (NP.bl (NP.th (NP.th (NP.bl (NP.th NP.body))))))) (by kernel_rfl) (by kernel_rfl) rfl rfl rfl (congrArg Value.bool (congrArg Bool.not h_23)) (PO.fieldAddrE fo60_0 hr_24 rfl) ?_
        have hi_25 := SeesA.elem hi_2 o0 (show q < d.l.length by omega)
        have hs_26 := seesO hi_25
        refine JA.takeOn 10 rfl (by kernel_rfl) (NP.th (NP.th (NP.bl (NP.th (NP.th (NP.bl (NP.th NP.body))))))) (by kernel_rfl) (by kernel_rfl) (by kernel_rfl) rfl rfl rfl (congrArg Value.bool (congrArg Bool.not h_23)) (LO.loadS1 (v := .int .i64 ((d.l.getD q o0).t.seq)) hs_1 (fun _ _ => List.not_mem_nil) rfl Tryz.isAgg3 (flat_at encO_len o0 d.l q 0 (by omega) (by decide))) ?_
        refine JA.takeOnP 11 rfl (by kernel_rfl) (NP.th (NP.th (NP.bl (NP.th (NP.th (NP.bl (NP.th NP.body))))))) (by kernel_rfl) (by kernel_rfl) rfl rfl rfl (congrArg Value.bool (congrArg Bool.not h_23)) (PO.gtr rfl rfl) ?_
        refine JA.takeP 12 rfl (by kernel_rfl) (NP.th (NP.th (NP.bl (NP.th (NP.th (NP.bl (NP.th NP.body))))))) (by kernel_rfl) (by kernel_rfl) rfl (PO.pickF (v := .bool (decide (((d.l.getD q o0).t.seq) < ((readI ((linesOf d.jt).getD i [])).1)))) (congrArg Value.bool (congrArg Bool.not h_23)) rfl) ?_
        refine JA.done (by kernel_rfl) ?_
        refine JQ.seq ?_
        by_cases h_27 : ((d.l.getD q o0).t.seq) < ((readI ((linesOf d.jt).getD i [])).1)
        · skip
          refine JC.condT (congrArg Value.bool (decide_eq_true h_27)) ?_
          refine JC.exit ?_
          refine JQ.thenExit ?_
          refine JQ.blockO rfl ?_
          refine JQ.thenExit ?_
          refine JQ.thenExit ?_
          refine JQ.blockE ?_
          refine JQ.seq ?_
          refine JC.seq ?_
          refine JC.region ?_
          refine JL.pure rfl (PO.fieldAddr fo31_1 he_12) ?_
          refine JL.pure rfl (PO.fieldAddr fo29_0 rfl) ?_
          refine JL.ld rfl (LO.load1 5 (v := str d.jt) rfl rfl Tryz.isAgg9 rfl) ?_
          refine JL.pure rfl (PO.move (v := .int .i64 ((n : Nat) : Int)) he_15) ?_
          refine JL.pure rfl (PO.sliceSl (i := n) Tryz.underlying9 rfl rfl (by omega)) ?_
          refine JL.pure rfl (PO.fieldAddr fo31_1 he_14) ?_
          refine JL.pure rfl (PO.fieldAddr fo29_0 rfl) ?_
          refine JL.op rfl (JO.store 2 (vs := [str (d.jt.drop n)]) (cs' := [.slice y_5.a y_5.l.length y_5.c, str (d.jt.drop n), .int .i64 y_5.js]) rfl rfl rfl rfl Tryz.sizeOf9 rfl rfl (Nat.le_of_ble_eq_true rfl) rfl) ?_
          rintro _ _ rfl
          refine JL.nil ?_
          refine JQ.seq ?_
          refine JC.seq ?_
          refine JC.region ?_
          refine JL.pure rfl (PO.fieldAddr fo31_1 he_12) ?_
          refine JL.pure rfl (PO.fieldAddr fo29_1 rfl) ?_
          refine JL.ld rfl (LO.load1 5 (v := .int .i64 d.js) rfl rfl Tryz.isAgg3 rfl) ?_
          refine JL.pure rfl (PO.move (v := .int .i64 ((n : Nat) : Int)) he_15) ?_
          refine JL.pure rfl (PO.sub (c := d.js - ((n : Nat) : Int)) rfl rfl (wr (by omega))) ?_
          refine JL.pure rfl (PO.max2D (c := max 0 (d.js - ((n : Nat) : Int))) rfl rfl rfl) ?_
          refine JL.pure rfl (PO.fieldAddr fo31_1 he_14) ?_
          refine JL.pure rfl (PO.fieldAddr fo29_1 rfl) ?_
          refine JL.op rfl (JO.store 2 (vs := [.int .i64 (max 0 (d.js - ((n : Nat) : Int)))]) (cs' := [.slice y_5.a y_5.l.length y_5.c, str (d.jt.drop n), .int .i64 (max 0 (d.js - ((n : Nat) : Int)))]) rfl rfl rfl rfl Tryz.sizeOf3 rfl rfl (Nat.le_of_ble_eq_true rfl) rfl) ?_
          rintro _ _ rfl
          refine JL.nil ?_
          refine JQ.seq ?_
          refine JC.seq ?_
          refine JC.region ?_
          refine JL.ld rfl (LO.loadK 2 (vs := [.slice y_5.a y_5.l.length y_5.c, str (d.jt.drop n), .int .i64 (max 0 (d.js - ((n : Nat) : Int)))]) rfl he_14 Tryz.isAgg31 Tryz.sizeOf31 rfl rfl) ?_
          refine JL.op rfl (JO.store 4 (vs := [.slice y_5.a y_5.l.length y_5.c, str (d.jt.drop n), .int .i64 (max 0 (d.js - ((n : Nat) : Int)))]) (cs' := [.slice y_5.a y_5.l.length y_5.c, str (d.jt.drop n), .int .i64 (max 0 (d.js - ((n : Nat) : Int)))]) rfl he_13 rfl rfl Tryz.sizeOf31 rfl rfl (Nat.le_of_ble_eq_true rfl) rfl) ?_
          rintro _ _ rfl
          refine JL.nil ?_
          refine JQ.seq ?_
          refine JC.ret ?_
          refine JQ.perm (pick_perm [3] (A := [Res.rows (rdsD y_5)]) (F := [Res.row (.slice a_21 ((readI ((linesOf d.jt).getD i [])).2.1.length) c_22) 48 2 (((readI ((linesOf d.jt).getD i [])).2.1).length) (((readI ((linesOf d.jt).getD i [])).2.1).flatMap encC), rS a_9 c_10 (linesOf d.jt), bk b_7 31 [.slice y_5.a y_5.l.length y_5.c, str (d.jt.drop n), .int .i64 (max 0 (d.js - ((n : Nat) : Int)))], bk b_4 31 [.slice y_5.a y_5.l.length y_5.c, str (d.jt.drop n), .int .i64 (max 0 (d.js - ((n : Nat) : Int)))], bk b_3 31 [.slice d.a d.l.length d.c, str d.jt, .int .i64 d.js]]) rfl).symm ?_
          refine Done.one (.inl rfl) rfl (RV.cell1 (LO.loadK 4 (vs := [.slice y_5.a y_5.l.length y_5.c, str (d.jt.drop n), .int .i64 (max 0 (d.js - ((n : Nat) : Int)))]) rfl he_13 Tryz.isAgg31 Tryz.sizeOf31 rfl rfl) ⟨_, he_13⟩) (List.sublist_append_left [Res.rows (rdsD y_5)] [Res.row (.slice a_21 ((readI ((linesOf d.jt).getD i [])).2.1.length) c_22) 48 2 (((readI ((linesOf d.jt).getD i [])).2.1).length) (((readI ((linesOf d.jt).getD i [])).2.1).flatMap encC), rS a_9 c_10 (linesOf d.jt), bk b_7 31 [.slice y_5.a y_5.l.length y_5.c, str (d.jt.drop n), .int .i64 (max 0 (d.js - ((n : Nat) : Int)))], bk b_4 31 [.slice y_5.a y_5.l.length y_5.c, str (d.jt.drop n), .int .i64 (max 0 (d.js - ((n : Nat) : Int)))], bk b_3 31 [.slice d.a d.l.length d.c, str d.jt, .int .i64 d.js]]) ?_
          have hn : n = trimL d.dat := by unfold trimL; show n = trimN (mostOf d.dat) (linesOf d.jt); rw [← hmost]; first | (rw [trimN_step hlt, if_pos (by first | exact .inl (by assumption) | exact .inr (by assumption))] at hR; exact hR) | (rw [show (linesOf d.jt).drop i = [] from List.drop_of_length_le (by omega), trimN] at hR; exact hR)
          exact ⟨(⟨y_5.a, y_5.c, y_5.l, d.jt.drop n, max 0 (d.js - ((n : Nat) : Int))⟩ : DX), trim_dat (y := y_5) hy_6 h_8 hn hjr2.2.2, rfl, rfl⟩
        · skip
          refine JC.condF (congrArg Value.bool (decide_eq_false h_27)) ?_
          refine JC.skip ?_
          refine JQ.seq ?_
          refine JC.region ?_
          refine JL.pure rfl (PO.move (v := .int .i64 ((n : Nat) : Int)) he_15) ?_
          refine JL.pure rfl (PO.move (v := str ((linesOf d.jt).getD i [])) rfl) ?_
          refine JL.pure rfl (PO.lenS Tryz.underlying9 rfl) ?_
          refine JL.pure rfl (PO.add (c := ((n + (((linesOf d.jt).getD i []).length) : Nat) : Int)) rfl rfl (wr (by omega))) ?_
          refine JL.pure rfl (PO.assign (v := .int .i64 ((n + (((linesOf d.jt).getD i []).length) : Nat) : Int)) rfl) ?_
          refine JL.nil ?_
          refine JQ.blockN ?_
          refine JQ.seq ?_
          refine JC.region ?_
          refine JL.pure rfl (PO.add (c := ((i + 1 : Nat) : Int)) he_18 rfl (wr (by omega))) ?_
          refine JL.pure rfl (PO.move (v := .int .i64 ((i + 1 : Nat) : Int)) rfl) ?_
          refine JL.nil ?_
          refine JQ.pick [1, 1, 1, 1, 1] (A := [rS a_9 c_10 (linesOf d.jt), bk b_7 31 [.slice y_5.a y_5.l.length y_5.c, str y_5.jt, .int .i64 y_5.js], Res.rows (rdsD y_5), bk b_4 31 [.slice none 0 0, str [], .int .i64 0], bk b_3 31 [.slice d.a d.l.length d.c, str d.jt, .int .i64 d.js]]) rfl ?_
          refine JQ.again ((linesOf d.jt).length - (i + 1)) (by omega) ⟨i + 1, n + (((linesOf d.jt).getD i []).length), by omega, (by rw [trimN_step hlt, if_neg (by rintro (h_ | h_); (rw [show (readI ((linesOf d.jt).getD i [])).2.2 = true by assumption] at h_; cases h_); omega)] at hR; omega), he_12, he_13, he_14, rfl, he_16, he_17, rfl, rfl, rfl⟩
      · skip
        refine JA.takeOff 3 (b := true) rfl (by kernel_rfl) (NP.th (NP.th (NP.bl (NP.th (NP.th (NP.bl (NP.th NP.body))))))) (by kernel_rfl) (by kernel_rfl) rfl rfl rfl (congrArg Value.bool (congrArg Bool.not h_23)) ?_
        refine JA.takeOff 4 (b := true) rfl (by kernel_rfl) (NP.th (NP.th (NP.bl (NP.th (NP.th (NP.bl (NP.th NP.body))))))) (by kernel_rfl) (by kernel_rfl) rfl rfl rfl (congrArg Value.bool (congrArg Bool.not h_23)) ?_
        refine JA.takeOff 5 (b := true) rfl (by kernel_rfl) (NP.th (NP.th (NP.bl (NP.th (NP.th (NP.bl (NP.th NP.body))))))) (by kernel_rfl) (by kernel_rfl) rfl rfl rfl (congrArg Value.bool (congrArg Bool.not h_23)) ?_
        refine JA.takeOff 6 (b := true) rfl (by kernel_rfl) (NP.th (NP.th (NP.bl (NP.th (NP.th (NP.bl (NP.th NP.body))))))) (by kernel_rfl) (by kernel_rfl) rfl rfl rfl (congrArg Value.bool (congrArg Bool.not h_23)) ?_
        refine JA.takeOff 7 (b := true) rfl (by kernel_rfl) (NP.th (NP.th (NP.bl (NP.th (NP.th (NP.bl (NP.th NP.body))))))) (by kernel_rfl) (by kernel_rfl) rfl rfl rfl (congrArg Value.bool (congrArg Bool.not h_23)) ?_
        refine JA.takeOff 8 (b := true) rfl (by kernel_rfl) (NP.th (NP.th (NP.bl (NP.th (NP.th (NP.bl (NP.th NP.body))))))) (by kernel_rfl) (by kernel_rfl) rfl rfl rfl (congrArg Value.bool (congrArg Bool.not h_23)) ?_
        refine JA.takeOff 9 (b := true) rfl (by kernel_rfl) (NP.th (NP.th (NP.bl (NP.th (NP.th (NP.bl (NP.th NP.body))))))) (by kernel_rfl) (by kernel_rfl) rfl rfl rfl (congrArg Value.bool (congrArg Bool.not h_23)) ?_
        refine JA.takeOff 10 (b := true) rfl (by kernel_rfl) (NP.th (NP.th (NP.bl (NP.th (NP.th (NP.bl (NP.th NP.body))))))) (by kernel_rfl) (by kernel_rfl) rfl rfl rfl (congrArg Value.bool (congrArg Bool.not h_23)) ?_
        refine JA.takeOff 11 (b := true) rfl (by kernel_rfl) (NP.th (NP.th (NP.bl (NP.th (NP.th (NP.bl (NP.th NP.body))))))) (by kernel_rfl) (by kernel_rfl) rfl rfl rfl (congrArg Value.bool (congrArg Bool.not h_23)) ?_
        refine JA.takeP 12 rfl (by kernel_rfl) (NP.th (NP.th (NP.bl (NP.th (NP.th (NP.bl (NP.th NP.body))))))) (by kernel_rfl) (by kernel_rfl) rfl (PO.pickT (v := .bool true) (congrArg Value.bool (congrArg Bool.not h_23)) rfl) ?_
        refine JA.done (by kernel_rfl) ?_
        refine JQ.seq ?_
        refine JC.condT (congrArg Value.bool rfl) ?_
        refine JC.exit ?_
        refine JQ.thenExit ?_
        refine JQ.blockO rfl ?_
        refine JQ.thenExit ?_
        refine JQ.thenExit ?_
        refine JQ.blockE ?_
        refine JQ.seq ?_
        refine JC.seq ?_
        refine JC.region ?_
        refine JL.pure rfl (PO.fieldAddr fo31_1 he_12) ?_
        refine JL.pure rfl (PO.fieldAddr fo29_0 rfl) ?_
        refine JL.ld rfl (LO.load1 5 (v := str d.jt) rfl rfl Tryz.isAgg9 rfl) ?_
        refine JL.pure rfl (PO.move (v := .int .i64 ((n : Nat) : Int)) he_15) ?_
        refine JL.pure rfl (PO.sliceSl (i := n) Tryz.underlying9 rfl rfl (by omega)) ?_
        refine JL.pure rfl (PO.fieldAddr fo31_1 he_14) ?_
        refine JL.pure rfl (PO.fieldAddr fo29_0 rfl) ?_
        refine JL.op rfl (JO.store 2 (vs := [str (d.jt.drop n)]) (cs' := [.slice y_5.a y_5.l.length y_5.c, str (d.jt.drop n), .int .i64 y_5.js]) rfl rfl rfl rfl Tryz.sizeOf9 rfl rfl (Nat.le_of_ble_eq_true rfl) rfl) ?_
        rintro _ _ rfl
        refine JL.nil ?_
        refine JQ.seq ?_
        refine JC.seq ?_
        refine JC.region ?_
        refine JL.pure rfl (PO.fieldAddr fo31_1 he_12) ?_
        refine JL.pure rfl (PO.fieldAddr fo29_1 rfl) ?_
        refine JL.ld rfl (LO.load1 5 (v := .int .i64 d.js) rfl rfl Tryz.isAgg3 rfl) ?_
        refine JL.pure rfl (PO.move (v := .int .i64 ((n : Nat) : Int)) he_15) ?_
        refine JL.pure rfl (PO.sub (c := d.js - ((n : Nat) : Int)) rfl rfl (wr (by omega))) ?_
        refine JL.pure rfl (PO.max2D (c := max 0 (d.js - ((n : Nat) : Int))) rfl rfl rfl) ?_
        refine JL.pure rfl (PO.fieldAddr fo31_1 he_14) ?_
        refine JL.pure rfl (PO.fieldAddr fo29_1 rfl) ?_
        refine JL.op rfl (JO.store 2 (vs := [.int .i64 (max 0 (d.js - ((n : Nat) : Int)))]) (cs' := [.slice y_5.a y_5.l.length y_5.c, str (d.jt.drop n), .int .i64 (max 0 (d.js - ((n : Nat) : Int)))]) rfl rfl rfl rfl Tryz.sizeOf3 rfl rfl (Nat.le_of_ble_eq_true rfl) rfl) ?_
        rintro _ _ rfl
        refine JL.nil ?_
        refine JQ.seq ?_
        refine JC.seq ?_
        refine JC.region ?_
        refine JL.ld rfl (LO.loadK 2 (vs := [.slice y_5.a y_5.l.length y_5.c, str (d.jt.drop n), .int .i64 (max 0 (d.js - ((n : Nat) : Int)))]) rfl he_14 Tryz.isAgg31 Tryz.sizeOf31 rfl rfl) ?_
        refine JL.op rfl (JO.store 4 (vs := [.slice y_5.a y_5.l.length y_5.c, str (d.jt.drop n), .int .i64 (max 0 (d.js - ((n : Nat) : Int)))]) (cs' := [.slice y_5.a y_5.l.length y_5.c, str (d.jt.drop n), .int .i64 (max 0 (d.js - ((n : Nat) : Int)))]) rfl he_13 rfl rfl Tryz.sizeOf31 rfl rfl (Nat.le_of_ble_eq_true rfl) rfl) ?_
        rintro _ _ rfl
        refine JL.nil ?_
        refine JQ.seq ?_
        refine JC.ret ?_
        refine JQ.perm (pick_perm [3] (A := [Res.rows (rdsD y_5)]) (F := [Res.row (.slice a_21 ((readI ((linesOf d.jt).getD i [])).2.1.length) c_22) 48 2 (((readI ((linesOf d.jt).getD i [])).2.1).length) (((readI ((linesOf d.jt).getD i [])).2.1).flatMap encC), rS a_9 c_10 (linesOf d.jt), bk b_7 31 [.slice y_5.a y_5.l.length y_5.c, str (d.jt.drop n), .int .i64 (max 0 (d.js - ((n : Nat) : Int)))], bk b_4 31 [.slice y_5.a y_5.l.length y_5.c, str (d.jt.drop n), .int .i64 (max 0 (d.js - ((n : Nat) : Int)))], bk b_3 31 [.slice d.a d.l.length d.c, str d.jt, .int .i64 d.js]]) rfl).symm ?_
        refine Done.one (.inl rfl) rfl (RV.cell1 (LO.loadK 4 (vs := [.slice y_5.a y_5.l.length y_5.c, str (d.jt.drop n), .int .i64 (max 0 (d.js - ((n : Nat) : Int)))]) rfl he_13 Tryz.isAgg31 Tryz.sizeOf31 rfl rfl) ⟨_, he_13⟩) (List.sublist_append_left [Res.rows (rdsD y_5)] [Res.row (.slice a_21 ((readI ((linesOf d.jt).getD i [])).2.1.length) c_22) 48 2 (((readI ((linesOf d.jt).getD i [])).2.1).length) (((readI ((linesOf d.jt).getD i [])).2.1).flatMap encC), rS a_9 c_10 (linesOf d.jt), bk b_7 31 [.slice y_5.a y_5.l.length y_5.c, str (d.jt.drop n), .int .i64 (max 0 (d.js - ((n : Nat) : Int)))], bk b_4 31 [.slice y_5.a y_5.l.length y_5.c, str (d.jt.drop n), .int .i64 (max 0 (d.js - ((n : Nat) : Int)))], bk b_3 31 [.slice d.a d.l.length d.c, str d.jt, .int .i64 d.js]]) ?_
        have hn : n = trimL d.dat := by unfold trimL; show n = trimN (mostOf d.dat) (linesOf d.jt); rw [← hmost]; first | (rw [trimN_step hlt, if_pos (by first | exact .inl (by assumption) | exact .inr (by assumption))] at hR; exact hR) | (rw [show (linesOf d.jt).drop i = [] from List.drop_of_length_le (by omega), trimN] at hR; exact hR)
        exact ⟨(⟨y_5.a, y_5.c, y_5.l, d.jt.drop n, max 0 (d.js - ((n : Nat) : Int))⟩ : DX), trim_dat (y := y_5) hy_6 h_8 hn hjr2.2.2, rfl, rfl⟩
    · skip
      refine JC.condF (congrArg Value.bool (decide_eq_false h_19)) ?_
      refine JC.exit ?_
      refine JQ.thenExit ?_
      refine JQ.thenExit ?_
      refine JQ.blockE ?_
      refine JQ.seq ?_
      refine JC.seq ?_
      refine JC.region ?_
      refine JL.pure rfl (PO.fieldAddr fo31_1 he_12) ?_
      refine JL.pure rfl (PO.fieldAddr fo29_0 rfl) ?_
      refine JL.ld rfl (LO.load1 4 (v := str d.jt) rfl rfl Tryz.isAgg9 rfl) ?_
      refine JL.pure rfl (PO.move (v := .int .i64 ((n : Nat) : Int)) he_15) ?_
      refine JL.pure rfl (PO.sliceSl (i := n) Tryz.underlying9 rfl rfl (by omega)) ?_
      refine JL.pure rfl (PO.fieldAddr fo31_1 he_14) ?_
      refine JL.pure rfl (PO.fieldAddr fo29_0 rfl) ?_
      refine JL.op rfl (JO.store 1 (vs := [str (d.jt.drop n)]) (cs' := [.slice y_5.a y_5.l.length y_5.c, str (d.jt.drop n), .int .i64 y_5.js]) rfl rfl rfl rfl Tryz.sizeOf9 rfl rfl (Nat.le_of_ble_eq_true rfl) rfl) ?_
      rintro _ _ rfl
      refine JL.nil ?_
      refine JQ.seq ?_
      refine JC.seq ?_
      refine JC.region ?_
      refine JL.pure rfl (PO.fieldAddr fo31_1 he_12) ?_
      refine JL.pure rfl (PO.fieldAddr fo29_1 rfl) ?_
      refine JL.ld rfl (LO.load1 4 (v := .int .i64 d.js) rfl rfl Tryz.isAgg3 rfl) ?_
      refine JL.pure rfl (PO.move (v := .int .i64 ((n : Nat) : Int)) he_15) ?_
      refine JL.pure rfl (PO.sub (c := d.js - ((n : Nat) : Int)) rfl rfl (wr (by omega))) ?_
      refine JL.pure rfl (PO.max2D (c := max 0 (d.js - ((n : Nat) : Int))) rfl rfl rfl) ?_
      refine JL.pure rfl (PO.fieldAddr fo31_1 he_14) ?_
      refine JL.pure rfl (PO.fieldAddr fo29_1 rfl) ?_
      refine JL.op rfl (JO.store 1 (vs := [.int .i64 (max 0 (d.js - ((n : Nat) : Int)))]) (cs' := [.slice y_5.a y_5.l.length y_5.c, str (d.jt.drop n), .int .i64 (max 0 (d.js - ((n : Nat) : Int)))]) rfl rfl rfl rfl Tryz.sizeOf3 rfl rfl (Nat.le_of_ble_eq_true rfl) rfl) ?_
      rintro _ _ rfl
      refine JL.nil ?_
      refine JQ.seq ?_
      refine JC.seq ?_
      refine JC.region ?_
      refine JL.ld rfl (LO.loadK 1 (vs := [.slice y_5.a y_5.l.length y_5.c, str (d.jt.drop n), .int .i64 (max 0 (d.js - ((n : Nat) : Int)))]) rfl he_14 Tryz.isAgg31 Tryz.sizeOf31 rfl rfl) ?_
      refine JL.op rfl (JO.store 3 (vs := [.slice y_5.a y_5.l.length y_5.c, str (d.jt.drop n), .int .i64 (max 0 (d.js - ((n : Nat) : Int)))]) (cs' := [.slice y_5.a y_5.l.length y_5.c, str (d.jt.drop n), .int .i64 (max 0 (d.js - ((n : Nat) : Int)))]) rfl he_13 rfl rfl Tryz.sizeOf31 rfl rfl (Nat.le_of_ble_eq_true rfl) rfl) ?_
      rintro _ _ rfl
      refine JL.nil ?_
      refine JQ.seq ?_
      refine JC.ret ?_
      refine JQ.perm (pick_perm [2] (A := [Res.rows (rdsD y_5)]) (F := [rS a_9 c_10 (linesOf d.jt), bk b_7 31 [.slice y_5.a y_5.l.length y_5.c, str (d.jt.drop n), .int .i64 (max 0 (d.js - ((n : Nat) : Int)))], bk b_4 31 [.slice y_5.a y_5.l.length y_5.c, str (d.jt.drop n), .int .i64 (max 0 (d.js - ((n : Nat) : Int)))], bk b_3 31 [.slice d.a d.l.length d.c, str d.jt, .int .i64 d.js]]) rfl).symm ?_
      refine Done.one (.inl rfl) rfl (RV.cell1 (LO.loadK 3 (vs := [.slice y_5.a y_5.l.length y_5.c, str (d.jt.drop n), .int .i64 (max 0 (d.js - ((n : Nat) : Int)))]) rfl he_13 Tryz.isAgg31 Tryz.sizeOf31 rfl rfl) ⟨_, he_13⟩) (List.sublist_append_left [Res.rows (rdsD y_5)] [rS a_9 c_10 (linesOf d.jt), bk b_7 31 [.slice y_5.a y_5.l.length y_5.c, str (d.jt.drop n), .int .i64 (max 0 (d.js - ((n : Nat) : Int)))], bk b_4 31 [.slice y_5.a y_5.l.length y_5.c, str (d.jt.drop n), .int .i64 (max 0 (d.js - ((n : Nat) : Int)))], bk b_3 31 [.slice d.a d.l.length d.c, str d.jt, .int .i64 d.js]]) ?_
      have hn : n = trimL d.dat := by unfold trimL; show n = trimN (mostOf d.dat) (linesOf d.jt); rw [← hmost]; first | (rw [trimN_step hlt, if_pos (by first | exact .inl (by assumption) | exact .inr (by assumption))] at hR; exact hR) | (rw [show (linesOf d.jt).drop i = [] from List.drop_of_length_le (by omega), trimN] at hR; exact hR)
      exact ⟨(⟨y_5.a, y_5.c, y_5.l, d.jt.drop n, max 0 (d.js - ((n : Nat) : Int))⟩ : DX), trim_dat (y := y_5) hy_6 h_8 hn hjr2.2.2, rfl, rfl⟩
  · skip
    refine JC.condT (congrArg Value.bool (congrArg Bool.not h_8)) ?_
    refine JC.seq ?_
    refine JC.region ?_
    refine JL.ld rfl (LO.loadK 0 (vs := [.slice y_5.a y_5.l.length y_5.c, str y_5.jt, .int .i64 y_5.js]) rfl rfl Tryz.isAgg31 Tryz.sizeOf31 rfl rfl) ?_
    refine JL.op rfl (JO.store 2 (vs := [.slice y_5.a y_5.l.length y_5.c, str y_5.jt, .int .i64 y_5.js]) (cs' := [.slice y_5.a y_5.l.length y_5.c, str y_5.jt, .int .i64 y_5.js]) rfl rfl rfl rfl Tryz.sizeOf31 rfl rfl (Nat.le_of_ble_eq_true rfl) rfl) ?_
    rintro _ _ rfl
    refine JL.nil ?_
    refine JQ.seq ?_
    refine JC.ret ?_
    refine JQ.thenRet ?_
    refine JQ.perm (pick_perm [1] (A := [Res.rows (rdsD y_5)]) (F := [bk b_7 31 [.slice y_5.a y_5.l.length y_5.c, str y_5.jt, .int .i64 y_5.js], bk b_4 31 [.slice y_5.a y_5.l.length y_5.c, str y_5.jt, .int .i64 y_5.js], bk b_3 31 [.slice d.a d.l.length d.c, str d.jt, .int .i64 d.js]]) rfl).symm ?_
    refine Done.one (.inl rfl) rfl (RV.cell1 (LO.loadK 2 (vs := [.slice y_5.a y_5.l.length y_5.c, str y_5.jt, .int .i64 y_5.js]) rfl rfl Tryz.isAgg31 Tryz.sizeOf31 rfl rfl) ⟨_, rfl⟩) (List.sublist_append_left [Res.rows (rdsD y_5)] [bk b_7 31 [.slice y_5.a y_5.l.length y_5.c, str y_5.jt, .int .i64 y_5.js], bk b_4 31 [.slice y_5.a y_5.l.length y_5.c, str y_5.jt, .int .i64 y_5.js], bk b_3 31 [.slice d.a d.l.length d.c, str d.jt, .int .i64 d.js]]) ?_
    exact ⟨y_5, by rw [hy_6, DD.trim, if_neg (by rw [h_8]; exact Bool.false_ne_true)], rfl, rfl⟩

end Go.Proofs.YtjncpgcccgdeiaaGreatDoor
