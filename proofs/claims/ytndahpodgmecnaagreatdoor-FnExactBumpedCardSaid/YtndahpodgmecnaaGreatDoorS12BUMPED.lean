/-
  The law FnExactBumped, walked (part 12): it says yes, whatever it is handed.
-/
import Derived.Test.YtndahpodgmecnaaGreatDoorS11SMACH
set_option linter.unusedSimpArgs false
set_option linter.unusedVariables false
set_option linter.unnecessarySimpa false
namespace Go.Proofs.YtndahpodgmecnaaGreatDoor
open Go Go.RowKit
attribute [local irreducible] JL JC JQ JO LO PO JA JX Ct

theorem szCells_use {key : Str} : ∀ (s : List Cell) (l : Int), ¬ szCells s l < 0 → 0 ≤ l → ((getKey s key).length : Int) ≤ l
  | [], l, _, h0 => by simp only [getKey, List.length_nil]; omega
  | c :: s, l, h, h0 => by
    unfold szCells at h
    split at h
    · omega
    · rename_i hc
      have ih := szCells_use (key := key) s _ h (by omega)
      have hle := szCell_le c.1 c.2 l h0
      unfold getKey
      split
      · unfold szCell at hc
        split at hc
        · omega
        · split at hc <;> omega
      · omega
theorem szStringS_use {s : List Str} {l : Int} (h : ¬ szStringS s l < 0) : (s.length : Int) ≤ l := by
  unfold szStringS at h
  split at h <;> omega
theorem szMach_use {m : MS} (h : ¬ szMach m 1048576 < 0) : m.s.length ≤ 1048576 ∧ m.r.length ≤ 1048576 ∧ m.w.length ≤ 1048576 ∧ ∀ key, (getKey m.s key).length ≤ 1048576 := by
  unfold szMach at h
  split at h
  · omega
  · rename_i h1
    have hs := szCellS_le m.s 1048576 (by omega)
    split at h
    · omega
    · rename_i h2
      have hs1 : m.s.length ≤ 1048576 := by
        unfold szCellS at h1
        split at h1 <;> omega
      unfold szTouch at h2
      split at h2
      · omega
      · rename_i h3
        have hr := szStringS_le m.r (szCellS m.s 1048576) (by omega)
        have hr1 : m.r.length ≤ 1048576 := by
          have := szStringS_use h3
          omega
        split at h2
        · omega
        · rename_i h4
          have hw1 : m.w.length ≤ 1048576 := by
            have := szStringS_use h4
            omega
          refine ⟨hs1, hr1, hw1, fun key => ?_⟩
          unfold szCellS at h1
          split at h1
          · omega
          · have := szCells_use (key := key) m.s _ h1 (by omega)
            omega

theorem C_law (a0 a1 a2 : Option Addr) (c0_ c1 c2 : Nat) (m : MS) (aKey : Str) (hkl : aKey.length ≤ 9223372036854775807) (hok_s : okC m.s) (hok_r : okS m.r) (hok_w : okS m.w) :
    Ct Tryz.prog 4 [.agg #[.slice a0 m.s.length c0_, .slice a1 m.r.length c1, .slice a2 m.w.length c2], str aKey] [] (fun w_ => Sees w_ (.slice a0 m.s.length c0_) 2 m.s.length (m.s.flatMap encC) ∧ Sees w_ (.slice a1 m.r.length c1) 1 m.r.length (m.r.map str) ∧ Sees w_ (.slice a2 m.w.length c2) 1 m.w.length (m.w.map str)) (fun v A' => v = .bool true ∧ A' = []) := by
  refine Ct.intro Tryz.func4 rfl Tryz.ntmps4 (Nat.le_of_ble_eq_true rfl) fun w0 hpre => ?_
  have hs_a0 : Sees w0 _ _ _ _ := hpre.1
  have hs_a1 : Sees w0 _ _ _ _ := hpre.2.1
  have hs_a2 : Sees w0 _ _ _ _ := hpre.2.2
  refine JC.seq ?_
  refine JC.region ?_
  refine JL.op rfl (JO.box (cs := [.slice a0 m.s.length c0_, .slice a1 m.r.length c1, .slice a2 m.w.length c2]) rfl rfl) ?_
  rintro _ _ ⟨b_1, rfl, rfl⟩
  refine JL.pure rfl (PO.assign (v := .bool false) rfl) ?_
  refine JL.nil ?_
  refine JQ.seq ?_
  refine JC.seq ?_
  refine JC.seq ?_
  refine JC.region ?_
  refine JL.pure rfl (PO.move (v := str aKey) rfl) ?_
  refine JL.pure rfl (PO.lenS Tryz.underlying9 rfl) ?_
  refine JL.pure rfl (PO.gtr rfl rfl) ?_
  refine JL.nil ?_
  refine JQ.seq ?_
  by_cases h_2 : 1048576 < (aKey.length : Int)
  · skip
    refine JC.condT (congrArg Value.bool (decide_eq_true h_2)) ?_
    refine JC.seq ?_
    refine JC.region ?_
    refine JL.pure rfl (PO.assign (v := .bool true) rfl) ?_
    refine JL.nil ?_
    refine JQ.seq ?_
    refine JC.ret ?_
    refine JQ.thenRet ?_
    refine Done.one (.inl rfl) rfl (RV.tmp (v := .bool true) rfl) (List.nil_sublist _) ?_
    exact ⟨rfl, rfl⟩
  · skip
    refine JC.condF (congrArg Value.bool (decide_eq_false h_2)) ?_
    refine JC.skip ?_
    refine JQ.seq ?_
    refine JC.seq ?_
    refine JC.region ?_
    refine JL.pure rfl (PO.assign (v := .int .i64 1048576) rfl) ?_
    refine JL.nil ?_
    refine JQ.seq ?_
    refine JC.seq ?_
    refine JC.region ?_
    refine JL.ld rfl (LO.loadK 0 (vs := [.slice a0 m.s.length c0_, .slice a1 m.r.length c1, .slice a2 m.w.length c2]) rfl rfl Tryz.isAgg48 Tryz.sizeOf48 rfl rfl) ?_
    refine JL.pure rfl (PO.move (v := .int .i64 1048576) rfl) ?_
    refine JL.op rfl (JO.call [] Tryz.call24 rfl (C_szMach a0 a1 a2 c0_ c1 c2 m 1048576 (by omega) (by omega) hok_s hok_r hok_w) rfl (fun w hw => ⟨hw.seeOut_ hs_a0 (fun _ _ => List.not_mem_nil), hw.seeOut_ hs_a1 (fun _ _ => List.not_mem_nil), hw.seeOut_ hs_a2 (fun _ _ => List.not_mem_nil)⟩)) ?_
    rintro _ _ ⟨_, ⟨rfl, rfl⟩, rfl⟩
    refine JL.pure rfl (PO.assign (v := .int .i64 (szMach m 1048576)) rfl) ?_
    refine JL.nil ?_
    refine JQ.seq ?_
    refine JC.seq ?_
    refine JC.seq ?_
    refine JC.region ?_
    refine JL.pure rfl (PO.move (v := .int .i64 (szMach m 1048576)) rfl) ?_
    refine JL.pure rfl (PO.lss rfl rfl) ?_
    refine JL.nil ?_
    refine JQ.seq ?_
    by_cases h_3 : (szMach m 1048576) < 0
    · skip
      refine JC.condT (congrArg Value.bool (decide_eq_true h_3)) ?_
      refine JC.seq ?_
      refine JC.region ?_
      refine JL.pure rfl (PO.assign (v := .bool true) rfl) ?_
      refine JL.nil ?_
      refine JQ.seq ?_
      refine JC.ret ?_
      refine JQ.thenRet ?_
      refine Done.one (.inl rfl) rfl (RV.tmp (v := .bool true) rfl) (List.nil_sublist _) ?_
      exact ⟨rfl, rfl⟩
    · skip
      obtain ⟨hs1, hr1, hw1, hv1⟩ := szMach_use (m := m) h_3
      have hv : (getKey m.s aKey).length ≤ 281474976710656 := Nat.le_trans (hv1 aKey) (by decide)
      have hbl := bump_len m aKey
      refine JC.condF (congrArg Value.bool (decide_eq_false h_3)) ?_
      refine JC.skip ?_
      refine JQ.seq ?_
      refine JC.seq ?_
      refine JC.region ?_
      refine JL.ld rfl (LO.loadK 0 (vs := [.slice a0 m.s.length c0_, .slice a1 m.r.length c1, .slice a2 m.w.length c2]) rfl rfl Tryz.isAgg48 Tryz.sizeOf48 rfl rfl) ?_
      refine JL.op rfl (JO.call [] Tryz.call25 rfl (C_toMach a0 a1 a2 c0_ c1 c2 m (by omega) (by omega) (by omega)) rfl (fun w hw => ⟨hw.seeOut_ hs_a0 (fun _ _ => List.not_mem_nil), hw.seeOut_ hs_a1 (fun _ _ => List.not_mem_nil), hw.seeOut_ hs_a2 (fun _ _ => List.not_mem_nil)⟩)) ?_
      rintro _ _ ⟨_, ⟨a_4, c_5, a_6, c_7, a_8, c_9, rfl, rfl⟩, rfl⟩
      refine JL.pure rfl (PO.move (v := str aKey) rfl) ?_
      refine JL.op rfl (JO.call [] Tryz.call9 rfl (C_sBumped a_4 a_6 a_8 c_5 c_7 c_9 m aKey (by omega) (by omega) (by omega) hv (by omega)) rfl (fun w hw => ⟨hw.see (i := 0) rfl, hw.see (i := 1) rfl, hw.see (i := 2) rfl⟩)) ?_
      rintro _ _ ⟨_, ⟨a_10, c_11, a_12, c_13, a_14, c_15, rfl, rfl⟩, rfl⟩
      refine JL.pure rfl (PO.move (v := .tuple #[.agg #[.slice a_10 (((MS.bump m aKey).1).s.length) c_11, .slice a_12 (((MS.bump m aKey).1).r.length) c_13, .slice a_14 (((MS.bump m aKey).1).w.length) c_15], .int .i64 ((MS.bump m aKey).2)]) rfl) ?_
      refine JL.pure rfl (PO.extract (v := .agg #[.slice a_10 (((MS.bump m aKey).1).s.length) c_11, .slice a_12 (((MS.bump m aKey).1).r.length) c_13, .slice a_14 (((MS.bump m aKey).1).w.length) c_15]) rfl rfl) ?_
      refine JL.pure rfl (PO.extract (v := .int .i64 ((MS.bump m aKey).2)) rfl rfl) ?_
      refine JL.op rfl (JO.alloc (z := .agg #[.slice none 0 0, .slice none 0 0, .slice none 0 0]) (cs := [.slice none 0 0, .slice none 0 0, .slice none 0 0]) Tryz.zeroValue29 rfl) ?_
      rintro _ _ ⟨b_16, rfl, rfl⟩
      refine JL.op rfl (JO.store 0 (vs := [.slice a_10 (((MS.bump m aKey).1).s.length) c_11, .slice a_12 (((MS.bump m aKey).1).r.length) c_13, .slice a_14 (((MS.bump m aKey).1).w.length) c_15]) (cs' := [.slice a_10 (((MS.bump m aKey).1).s.length) c_11, .slice a_12 (((MS.bump m aKey).1).r.length) c_13, .slice a_14 (((MS.bump m aKey).1).w.length) c_15]) rfl rfl rfl rfl Tryz.sizeOf29 rfl rfl (Nat.le_of_ble_eq_true rfl) rfl) ?_
      rintro _ _ rfl
      refine JL.pure rfl (PO.assign (v := .int .i64 ((MS.bump m aKey).2)) rfl) ?_
      refine JL.nil ?_
      refine JQ.seq ?_
      refine JC.seq ?_
      refine JC.region ?_
      refine JL.ld rfl (LO.loadK 7 (vs := [.slice a0 m.s.length c0_, .slice a1 m.r.length c1, .slice a2 m.w.length c2]) rfl rfl Tryz.isAgg48 Tryz.sizeOf48 rfl rfl) ?_
      refine JL.op rfl (JO.call [] Tryz.call25 rfl (C_toMach a0 a1 a2 c0_ c1 c2 m (by omega) (by omega) (by omega)) rfl (fun w hw => ⟨hw.seeOut_ hs_a0 (fun _ _ => List.not_mem_nil), hw.seeOut_ hs_a1 (fun _ _ => List.not_mem_nil), hw.seeOut_ hs_a2 (fun _ _ => List.not_mem_nil)⟩)) ?_
      rintro _ _ ⟨_, ⟨a_17, c_18, a_19, c_20, a_21, c_22, rfl, rfl⟩, rfl⟩
      refine JL.op rfl (JO.alloc (z := .agg #[.slice none 0 0, .slice none 0 0, .slice none 0 0]) (cs := [.slice none 0 0, .slice none 0 0, .slice none 0 0]) Tryz.zeroValue29 rfl) ?_
      rintro _ _ ⟨b_23, rfl, rfl⟩
      refine JL.op rfl (JO.store 0 (vs := [.slice a_17 m.s.length c_18, .slice a_19 m.r.length c_20, .slice a_21 m.w.length c_22]) (cs' := [.slice a_17 m.s.length c_18, .slice a_19 m.r.length c_20, .slice a_21 m.w.length c_22]) rfl rfl rfl rfl Tryz.sizeOf29 rfl rfl (Nat.le_of_ble_eq_true rfl) rfl) ?_
      rintro _ _ rfl
      refine JL.nil ?_
      refine JQ.seq ?_
      refine JC.seq ?_
      refine JC.region ?_
      refine JL.ld rfl (LO.loadK 0 (vs := [.slice a_17 m.s.length c_18, .slice a_19 m.r.length c_20, .slice a_21 m.w.length c_22]) rfl rfl Tryz.isAgg29 Tryz.sizeOf29 rfl rfl) ?_
      refine JL.pure rfl (PO.move (v := str aKey) rfl) ?_
      refine JL.op rfl (JO.call [] Tryz.call8 rfl (C_iBumped a_17 a_19 a_21 c_18 c_20 c_22 m aKey (by omega) (by omega) (by omega) hv (by omega)) rfl (fun w hw => ⟨hw.see (i := 1) rfl, hw.see (i := 2) rfl, hw.see (i := 3) rfl⟩)) ?_
      rintro _ _ ⟨_, ⟨a_24, c_25, a_26, c_27, a_28, c_29, rfl, rfl⟩, rfl⟩
      refine JL.pure rfl (PO.move (v := .tuple #[.agg #[.slice a_24 (((MS.bump m aKey).1).s.length) c_25, .slice a_26 (((MS.bump m aKey).1).r.length) c_27, .slice a_28 (((MS.bump m aKey).1).w.length) c_29], .int .i64 ((MS.bump m aKey).2)]) rfl) ?_
      refine JL.pure rfl (PO.extract (v := .agg #[.slice a_24 (((MS.bump m aKey).1).s.length) c_25, .slice a_26 (((MS.bump m aKey).1).r.length) c_27, .slice a_28 (((MS.bump m aKey).1).w.length) c_29]) rfl rfl) ?_
      refine JL.pure rfl (PO.extract (v := .int .i64 ((MS.bump m aKey).2)) rfl rfl) ?_
      refine JL.op rfl (JO.alloc (z := .agg #[.slice none 0 0, .slice none 0 0, .slice none 0 0]) (cs := [.slice none 0 0, .slice none 0 0, .slice none 0 0]) Tryz.zeroValue29 rfl) ?_
      rintro _ _ ⟨b_30, rfl, rfl⟩
      refine JL.op rfl (JO.store 0 (vs := [.slice a_24 (((MS.bump m aKey).1).s.length) c_25, .slice a_26 (((MS.bump m aKey).1).r.length) c_27, .slice a_28 (((MS.bump m aKey).1).w.length) c_29]) (cs' := [.slice a_24 (((MS.bump m aKey).1).s.length) c_25, .slice a_26 (((MS.bump m aKey).1).r.length) c_27, .slice a_28 (((MS.bump m aKey).1).w.length) c_29]) rfl rfl rfl rfl Tryz.sizeOf29 rfl rfl (Nat.le_of_ble_eq_true rfl) rfl) ?_
      rintro _ _ rfl
      refine JL.pure rfl (PO.assign (v := .int .i64 ((MS.bump m aKey).2)) rfl) ?_
      refine JL.nil ?_
      refine JQ.seq ?_
      refine JC.seq ?_
      refine JC.seq ?_
      refine JC.region ?_
      refine JL.ld rfl (LO.loadK 0 (vs := [.slice a_24 (((MS.bump m aKey).1).s.length) c_25, .slice a_26 (((MS.bump m aKey).1).r.length) c_27, .slice a_28 (((MS.bump m aKey).1).w.length) c_29]) rfl rfl Tryz.isAgg29 Tryz.sizeOf29 rfl rfl) ?_
      refine JL.ld rfl (LO.loadK 8 (vs := [.slice a_10 (((MS.bump m aKey).1).s.length) c_11, .slice a_12 (((MS.bump m aKey).1).r.length) c_13, .slice a_14 (((MS.bump m aKey).1).w.length) c_15]) rfl rfl Tryz.isAgg29 Tryz.sizeOf29 rfl rfl) ?_
      refine JL.op rfl (JO.call [] Tryz.call26 rfl (C_eqMach a_24 a_26 a_28 a_10 a_12 a_14 c_25 c_27 c_29 c_11 c_13 c_15 (((MS.bump m aKey).1).s) (((MS.bump m aKey).1).r) (((MS.bump m aKey).1).w) (((MS.bump m aKey).1).s) (((MS.bump m aKey).1).r) (((MS.bump m aKey).1).w) (by omega) (by omega) (by omega)) rfl (fun w hw => ⟨hw.see (i := 1) rfl, hw.see (i := 2) rfl, hw.see (i := 3) rfl, hw.see (i := 9) rfl, hw.see (i := 10) rfl, hw.see (i := 11) rfl⟩)) ?_
      rintro _ _ ⟨_, ⟨rfl, rfl⟩, rfl⟩
      have heq_31 : (decide ((((MS.bump m aKey).1).s) = (((MS.bump m aKey).1).s)) && (decide ((((MS.bump m aKey).1).r) = (((MS.bump m aKey).1).r)) && decide ((((MS.bump m aKey).1).w) = (((MS.bump m aKey).1).w)))) = true := by simp
      refine JL.pure rfl (PO.not rfl) ?_
      refine JL.pure rfl (PO.move (v := .bool (!(decide ((((MS.bump m aKey).1).s) = (((MS.bump m aKey).1).s)) && (decide ((((MS.bump m aKey).1).r) = (((MS.bump m aKey).1).r)) && decide ((((MS.bump m aKey).1).w) = (((MS.bump m aKey).1).w)))))) rfl) ?_
      refine JL.guardOn rfl rfl rfl (congrArg Value.bool (congrArg Bool.not heq_31)) (JO.ofLO (LO.pure (PO.move (v := .int .i64 ((MS.bump m aKey).2)) rfl))) ?_
      rintro _ _ ⟨rfl, rfl⟩
      refine JL.guardOn rfl rfl rfl (congrArg Value.bool (congrArg Bool.not heq_31)) (JO.ofLO (LO.pure (PO.move (v := .int .i64 ((MS.bump m aKey).2)) rfl))) ?_
      rintro _ _ ⟨rfl, rfl⟩
      refine JL.guardOn rfl rfl rfl (congrArg Value.bool (congrArg Bool.not heq_31)) (JO.ofLO (LO.pure (PO.neqI rfl rfl))) ?_
      rintro _ _ ⟨rfl, rfl⟩
      refine JL.pure rfl (PO.pickF (v := .bool (!(decide (((MS.bump m aKey).2) = ((MS.bump m aKey).2))))) (congrArg Value.bool (congrArg Bool.not heq_31)) rfl) ?_
      refine JL.nil ?_
      refine JQ.seq ?_
      refine JC.condF (congrArg Value.bool (congrArg Bool.not (decide_eq_true rfl))) ?_
      refine JC.skip ?_
      refine JQ.seq ?_
      refine JC.seq ?_
      refine JC.seq ?_
      refine JC.regionA [bk b_30 29 [.slice a_24 (((MS.bump m aKey).1).s.length) c_25, .slice a_26 (((MS.bump m aKey).1).r.length) c_27, .slice a_28 (((MS.bump m aKey).1).w.length) c_29], Res.row (.slice a_24 (((MS.bump m aKey).1).s.length) c_25) 86 2 ((((MS.bump m aKey).1).s).length) ((((MS.bump m aKey).1).s).flatMap encC), Res.row (.slice a_26 (((MS.bump m aKey).1).r.length) c_27) 9 1 ((((MS.bump m aKey).1).r).length) ((((MS.bump m aKey).1).r).map str), Res.row (.slice a_28 (((MS.bump m aKey).1).w.length) c_29) 9 1 ((((MS.bump m aKey).1).w).length) ((((MS.bump m aKey).1).w).map str), bk b_23 29 [.slice a_17 m.s.length c_18, .slice a_19 m.r.length c_20, .slice a_21 m.w.length c_22], Res.row (.slice a_17 m.s.length c_18) 86 2 m.s.length (m.s.flatMap encC), Res.row (.slice a_19 m.r.length c_20) 9 1 m.r.length (m.r.map str), Res.row (.slice a_21 m.w.length c_22) 9 1 m.w.length (m.w.map str), bk b_16 29 [.slice a_10 (((MS.bump m aKey).1).s.length) c_11, .slice a_12 (((MS.bump m aKey).1).r.length) c_13, .slice a_14 (((MS.bump m aKey).1).w.length) c_15], Res.row (.slice a_10 (((MS.bump m aKey).1).s.length) c_11) 86 2 ((((MS.bump m aKey).1).s).length) ((((MS.bump m aKey).1).s).flatMap encC), Res.row (.slice a_12 (((MS.bump m aKey).1).r.length) c_13) 9 1 ((((MS.bump m aKey).1).r).length) ((((MS.bump m aKey).1).r).map str), Res.row (.slice a_14 (((MS.bump m aKey).1).w.length) c_15) 9 1 ((((MS.bump m aKey).1).w).length) ((((MS.bump m aKey).1).w).map str), Res.row (.slice a_4 m.s.length c_5) 86 2 m.s.length (m.s.flatMap encC), Res.row (.slice a_6 m.r.length c_7) 9 1 m.r.length (m.r.map str), Res.row (.slice a_8 m.w.length c_9) 9 1 m.w.length (m.w.map str), bk b_1 48 [.slice a0 m.s.length c0_, .slice a1 m.r.length c1, .slice a2 m.w.length c2]] 1000 mixed (by simp) ?_
      refine JA.take 0 rfl (by kernel_rfl) (NP.th (NP.th NP.body)) (by kernel_rfl) (by kernel_rfl) (by kernel_rfl) rfl (LO.loadK 4 (vs := [.slice a_17 m.s.length c_18, .slice a_19 m.r.length c_20, .slice a_21 m.w.length c_22]) rfl rfl Tryz.isAgg29 Tryz.sizeOf29 rfl rfl) ?_
      refine JA.take 1 rfl (by kernel_rfl) (NP.th (NP.th NP.body)) (by kernel_rfl) (by kernel_rfl) (by kernel_rfl) rfl (LO.loadK 15 (vs := [.slice a0 m.s.length c0_, .slice a1 m.r.length c1, .slice a2 m.w.length c2]) rfl rfl Tryz.isAgg48 Tryz.sizeOf48 rfl rfl) ?_
      refine JA.one (i := 2) (by kernel_rfl) ?_
      refine JX.op rfl rfl (JO.call [] Tryz.call25 rfl (C_toMach a0 a1 a2 c0_ c1 c2 m (by omega) (by omega) (by omega)) rfl (fun w hw => ⟨hw.seeOut_ hs_a0 (fun _ _ => List.not_mem_nil), hw.seeOut_ hs_a1 (fun _ _ => List.not_mem_nil), hw.seeOut_ hs_a2 (fun _ _ => List.not_mem_nil)⟩)) ?_
      rintro _ _ ⟨_, ⟨a_38, c_39, a_40, c_41, a_42, c_43, rfl, rfl⟩, rfl⟩
      refine ⟨by simp, ?_⟩
      refine JA.one (i := 3) (by kernel_rfl) ?_
      refine JX.op rfl rfl (JO.call [] Tryz.call26 rfl (C_eqMach a_17 a_19 a_21 a_38 a_40 a_42 c_18 c_20 c_22 c_39 c_41 c_43 m.s m.r m.w m.s m.r m.w (by omega) (by omega) (by omega)) rfl (fun w hw => ⟨hw.see (i := 8) rfl, hw.see (i := 9) rfl, hw.see (i := 10) rfl, hw.see (i := 0) rfl, hw.see (i := 1) rfl, hw.see (i := 2) rfl⟩)) ?_
      rintro _ _ ⟨_, ⟨rfl, rfl⟩, rfl⟩
      have heq_45 : (decide (m.s = m.s) && (decide (m.r = m.r) && decide (m.w = m.w))) = true := by simp
      refine ⟨by simp, ?_⟩
      refine JA.take 4 rfl (by kernel_rfl) (NP.th (NP.th NP.body)) (by kernel_rfl) (by kernel_rfl) (by kernel_rfl) rfl (LO.pure (PO.not rfl)) ?_
      refine JA.done (by kernel_rfl) ?_
      refine JQ.seq ?_
      refine JC.condF (congrArg Value.bool (congrArg Bool.not heq_45)) ?_
      refine JC.skip ?_
      refine JQ.seq ?_
      refine JC.seq ?_
      refine JC.region ?_
      refine JL.pure rfl (PO.assign (v := .int .i64 1) rfl) ?_
      refine JL.nil ?_
      refine JQ.seq ?_
      refine JC.seq ?_
      refine JC.region ?_
      refine JL.ld rfl (LO.loadK 7 (vs := [.slice a_17 m.s.length c_18, .slice a_19 m.r.length c_20, .slice a_21 m.w.length c_22]) rfl rfl Tryz.isAgg29 Tryz.sizeOf29 rfl rfl) ?_
      refine JL.pure rfl (PO.move (v := .int .i64 1) rfl) ?_
      refine JL.op rfl (JO.call [8, 8, 8] Tryz.call27 rfl (C_markMach a_17 a_19 a_21 c_18 c_20 c_22 m.s m.r m.w 1 (by omega) (by omega)) rfl (fun _ _ => trivial)) ?_
      rintro _ _ ⟨_, ⟨rfl, rfl⟩, rfl⟩
      refine JL.pure rfl (PO.assign (v := .int .i64 ((1 + 2 * m.s.length + m.r.length + m.w.length : Nat) : Int)) rfl) ?_
      refine JL.nil ?_
      refine JQ.seq ?_
      refine JC.seq ?_
      refine JC.seq ?_
      refine JC.region ?_
      refine JL.pure rfl (PO.move (v := .int .i64 ((1 + 2 * m.s.length + m.r.length + m.w.length : Nat) : Int)) rfl) ?_
      refine JL.pure rfl (PO.lss rfl rfl) ?_
      refine JL.pure rfl (PO.move (v := .bool (decide (((1 + 2 * m.s.length + m.r.length + m.w.length : Nat) : Int) < 0))) rfl) ?_
      by_cases h_46 : ((1 + 2 * m.s.length + m.r.length + m.w.length : Nat) : Int) < 0
      · skip
        exfalso; omega
      · skip
        refine JL.guardOn rfl rfl rfl (congrArg Value.bool (decide_eq_false h_46)) (JO.ofLO (LO.loadK 6 (vs := [.slice a_24 (((MS.bump m aKey).1).s.length) c_25, .slice a_26 (((MS.bump m aKey).1).r.length) c_27, .slice a_28 (((MS.bump m aKey).1).w.length) c_29]) rfl rfl Tryz.isAgg29 Tryz.sizeOf29 rfl rfl)) ?_
        rintro _ _ ⟨rfl, rfl⟩
        refine JL.guardOn rfl rfl rfl (congrArg Value.bool (decide_eq_false h_46)) (JO.ofLO (LO.loadK 11 (vs := [.slice a_10 (((MS.bump m aKey).1).s.length) c_11, .slice a_12 (((MS.bump m aKey).1).r.length) c_13, .slice a_14 (((MS.bump m aKey).1).w.length) c_15]) rfl rfl Tryz.isAgg29 Tryz.sizeOf29 rfl rfl)) ?_
        rintro _ _ ⟨rfl, rfl⟩
        refine JL.guardOn rfl rfl rfl (congrArg Value.bool (decide_eq_false h_46)) (JO.call [] Tryz.call26 rfl (C_eqMach a_24 a_26 a_28 a_10 a_12 a_14 c_25 c_27 c_29 c_11 c_13 c_15 (((MS.bump m aKey).1).s) (((MS.bump m aKey).1).r) (((MS.bump m aKey).1).w) (((MS.bump m aKey).1).s) (((MS.bump m aKey).1).r) (((MS.bump m aKey).1).w) (by omega) (by omega) (by omega)) rfl (fun w hw => ⟨hw.see (i := 7) rfl, hw.see (i := 8) rfl, hw.see (i := 9) rfl, hw.see (i := 12) rfl, hw.see (i := 13) rfl, hw.see (i := 14) rfl⟩)) ?_
        rintro _ _ ⟨_, ⟨rfl, rfl⟩, rfl⟩
        have heq_47 : (decide ((((MS.bump m aKey).1).s) = (((MS.bump m aKey).1).s)) && (decide ((((MS.bump m aKey).1).r) = (((MS.bump m aKey).1).r)) && decide ((((MS.bump m aKey).1).w) = (((MS.bump m aKey).1).w)))) = true := by simp
        refine JL.guardOn rfl rfl rfl (congrArg Value.bool (decide_eq_false h_46)) (JO.ofLO (LO.pure (PO.not rfl))) ?_
        rintro _ _ ⟨rfl, rfl⟩
        refine JL.pure rfl (PO.pickF (v := .bool (!(decide ((((MS.bump m aKey).1).s) = (((MS.bump m aKey).1).s)) && (decide ((((MS.bump m aKey).1).r) = (((MS.bump m aKey).1).r)) && decide ((((MS.bump m aKey).1).w) = (((MS.bump m aKey).1).w)))))) (congrArg Value.bool (decide_eq_false h_46)) rfl) ?_
        refine JL.pure rfl (PO.move (v := .bool (!(decide ((((MS.bump m aKey).1).s) = (((MS.bump m aKey).1).s)) && (decide ((((MS.bump m aKey).1).r) = (((MS.bump m aKey).1).r)) && decide ((((MS.bump m aKey).1).w) = (((MS.bump m aKey).1).w)))))) rfl) ?_
        refine JL.guardOn rfl rfl rfl (congrArg Value.bool (congrArg Bool.not heq_47)) (JO.ofLO (LO.pure (PO.move (v := .int .i64 ((MS.bump m aKey).2)) rfl))) ?_
        rintro _ _ ⟨rfl, rfl⟩
        refine JL.guardOn rfl rfl rfl (congrArg Value.bool (congrArg Bool.not heq_47)) (JO.ofLO (LO.pure (PO.move (v := .int .i64 ((MS.bump m aKey).2)) rfl))) ?_
        rintro _ _ ⟨rfl, rfl⟩
        refine JL.guardOn rfl rfl rfl (congrArg Value.bool (congrArg Bool.not heq_47)) (JO.ofLO (LO.pure (PO.neqI rfl rfl))) ?_
        rintro _ _ ⟨rfl, rfl⟩
        refine JL.pure rfl (PO.pickF (v := .bool (!(decide (((MS.bump m aKey).2) = ((MS.bump m aKey).2))))) (congrArg Value.bool (congrArg Bool.not heq_47)) rfl) ?_
        refine JL.nil ?_
        refine JQ.seq ?_
        refine JC.condF (congrArg Value.bool (congrArg Bool.not (decide_eq_true rfl))) ?_
        refine JC.skip ?_
        refine JQ.seq ?_
        refine JC.seq ?_
        refine JC.region ?_
        refine JL.pure rfl (PO.assign (v := .int .i64 1) rfl) ?_
        refine JL.nil ?_
        refine JQ.seq ?_
        refine JC.seq ?_
        refine JC.region ?_
        refine JL.ld rfl (LO.loadK 6 (vs := [.slice a_24 (((MS.bump m aKey).1).s.length) c_25, .slice a_26 (((MS.bump m aKey).1).r.length) c_27, .slice a_28 (((MS.bump m aKey).1).w.length) c_29]) rfl rfl Tryz.isAgg29 Tryz.sizeOf29 rfl rfl) ?_
        refine JL.pure rfl (PO.move (v := .int .i64 1) rfl) ?_
        refine JL.op rfl (JO.call [7, 7, 7] Tryz.call27 rfl (C_markMach a_24 a_26 a_28 c_25 c_27 c_29 (((MS.bump m aKey).1).s) (((MS.bump m aKey).1).r) (((MS.bump m aKey).1).w) 1 (by omega) (by omega)) rfl (fun _ _ => trivial)) ?_
        rintro _ _ ⟨_, ⟨rfl, rfl⟩, rfl⟩
        refine JL.pure rfl (PO.assign (v := .int .i64 ((1 + 2 * (((MS.bump m aKey).1).s).length + (((MS.bump m aKey).1).r).length + (((MS.bump m aKey).1).w).length : Nat) : Int)) rfl) ?_
        refine JL.nil ?_
        refine JQ.seq ?_
        refine JC.seq ?_
        refine JC.region ?_
        refine JL.pure rfl (PO.assign (v := .int .i64 1) rfl) ?_
        refine JL.nil ?_
        refine JQ.seq ?_
        refine JC.seq ?_
        refine JC.region ?_
        refine JL.ld rfl (LO.loadK 9 (vs := [.slice a_24 (((MS.bump m aKey).1).s.length) c_25, .slice a_26 (((MS.bump m aKey).1).r.length) c_27, .slice a_28 (((MS.bump m aKey).1).w.length) c_29]) rfl rfl Tryz.isAgg29 Tryz.sizeOf29 rfl rfl) ?_
        refine JL.pure rfl (PO.move (v := .int .i64 1) rfl) ?_
        refine JL.op rfl (JO.call [] Tryz.call28 rfl (C_heldMach a_24 a_26 a_28 (((MS.bump m aKey).1).s.length) (((MS.bump m aKey).1).r.length) (((MS.bump m aKey).1).w.length) c_25 c_27 c_29 (markC (((MS.bump m aKey).1).s) 1) (markS (((MS.bump m aKey).1).r) (1 + 2 * (((MS.bump m aKey).1).s).length)) (markS (((MS.bump m aKey).1).w) (1 + 2 * (((MS.bump m aKey).1).s).length + (((MS.bump m aKey).1).r).length)) 1 (by first | rfl | exact markS_len _ _ | exact markC_len _ _ | assumption) (by first | rfl | exact markS_len _ _ | exact markC_len _ _ | assumption) (by first | rfl | exact markS_len _ _ | exact markC_len _ _ | assumption) (by omega) (by (try simp only [markC_len, markS_len]); omega)) rfl (fun w hw => ⟨hw.see (i := 0) rfl, hw.see (i := 1) rfl, hw.see (i := 2) rfl⟩)) ?_
        rintro _ _ ⟨_, ⟨rfl, rfl⟩, rfl⟩
        have hh_48 : heldM (markC (((MS.bump m aKey).1).s) 1) (markS (((MS.bump m aKey).1).r) (1 + 2 * (((MS.bump m aKey).1).s).length)) (markS (((MS.bump m aKey).1).w) (1 + 2 * (((MS.bump m aKey).1).s).length + (((MS.bump m aKey).1).r).length)) 1 = ((1 + 2 * (((MS.bump m aKey).1).s).length + (((MS.bump m aKey).1).r).length + (((MS.bump m aKey).1).w).length : Nat) : Int) := heldM_mark _ _ _ 1
        refine JL.pure rfl (PO.assign (v := .int .i64 (heldM (markC (((MS.bump m aKey).1).s) 1) (markS (((MS.bump m aKey).1).r) (1 + 2 * (((MS.bump m aKey).1).s).length)) (markS (((MS.bump m aKey).1).w) (1 + 2 * (((MS.bump m aKey).1).s).length + (((MS.bump m aKey).1).r).length)) 1)) rfl) ?_
        refine JL.nil ?_
        refine JQ.seq ?_
        refine JC.seq ?_
        refine JC.seq ?_
        refine JC.region ?_
        refine JL.pure rfl (PO.move (v := .int .i64 (heldM (markC (((MS.bump m aKey).1).s) 1) (markS (((MS.bump m aKey).1).r) (1 + 2 * (((MS.bump m aKey).1).s).length)) (markS (((MS.bump m aKey).1).w) (1 + 2 * (((MS.bump m aKey).1).s).length + (((MS.bump m aKey).1).r).length)) 1)) rfl) ?_
        refine JL.pure rfl (PO.lss rfl rfl) ?_
        refine JL.nil ?_
        refine JQ.seq ?_
        by_cases h_49 : (heldM (markC (((MS.bump m aKey).1).s) 1) (markS (((MS.bump m aKey).1).r) (1 + 2 * (((MS.bump m aKey).1).s).length)) (markS (((MS.bump m aKey).1).w) (1 + 2 * (((MS.bump m aKey).1).s).length + (((MS.bump m aKey).1).r).length)) 1) < 0
        · skip
          exfalso; omega
        · skip
          refine JC.condF (congrArg Value.bool (decide_eq_false h_49)) ?_
          refine JC.skip ?_
          refine JQ.seq ?_
          refine JC.seq ?_
          refine JC.seq ?_
          refine JC.region ?_
          refine JL.pure rfl (PO.move (v := .int .i64 (heldM (markC (((MS.bump m aKey).1).s) 1) (markS (((MS.bump m aKey).1).r) (1 + 2 * (((MS.bump m aKey).1).s).length)) (markS (((MS.bump m aKey).1).w) (1 + 2 * (((MS.bump m aKey).1).s).length + (((MS.bump m aKey).1).r).length)) 1)) rfl) ?_
          refine JL.pure rfl (PO.move (v := .int .i64 ((1 + 2 * (((MS.bump m aKey).1).s).length + (((MS.bump m aKey).1).r).length + (((MS.bump m aKey).1).w).length : Nat) : Int)) rfl) ?_
          refine JL.pure rfl (PO.neqI rfl rfl) ?_
          refine JL.nil ?_
          refine JQ.seq ?_
          by_cases h_50 : (heldM (markC (((MS.bump m aKey).1).s) 1) (markS (((MS.bump m aKey).1).r) (1 + 2 * (((MS.bump m aKey).1).s).length)) (markS (((MS.bump m aKey).1).w) (1 + 2 * (((MS.bump m aKey).1).s).length + (((MS.bump m aKey).1).r).length)) 1) = ((1 + 2 * (((MS.bump m aKey).1).s).length + (((MS.bump m aKey).1).r).length + (((MS.bump m aKey).1).w).length : Nat) : Int)
          · skip
            refine JC.condF (congrArg Value.bool (congrArg Bool.not (decide_eq_true h_50))) ?_
            refine JC.skip ?_
            refine JQ.seq ?_
            refine JC.seq ?_
            refine JC.region ?_
            refine JL.ld rfl (LO.loadK 18 (vs := [.slice a0 m.s.length c0_, .slice a1 m.r.length c1, .slice a2 m.w.length c2]) rfl rfl Tryz.isAgg48 Tryz.sizeOf48 rfl rfl) ?_
            refine JL.op rfl (JO.call [] Tryz.call25 rfl (C_toMach a0 a1 a2 c0_ c1 c2 m (by omega) (by omega) (by omega)) rfl (fun w hw => ⟨hw.seeOut_ hs_a0 (fun _ _ => List.not_mem_nil), hw.seeOut_ hs_a1 (fun _ _ => List.not_mem_nil), hw.seeOut_ hs_a2 (fun _ _ => List.not_mem_nil)⟩)) ?_
            rintro _ _ ⟨_, ⟨a_51, c_52, a_53, c_54, a_55, c_56, rfl, rfl⟩, rfl⟩
            refine JL.pure rfl (PO.move (v := str aKey) rfl) ?_
            refine JL.op rfl (JO.call [] Tryz.call8 rfl (C_iBumped a_51 a_53 a_55 c_52 c_54 c_56 m aKey (by omega) (by omega) (by omega) hv (by omega)) rfl (fun w hw => ⟨hw.see (i := 0) rfl, hw.see (i := 1) rfl, hw.see (i := 2) rfl⟩)) ?_
            rintro _ _ ⟨_, ⟨a_57, c_58, a_59, c_60, a_61, c_62, rfl, rfl⟩, rfl⟩
            refine JL.pure rfl (PO.move (v := .tuple #[.agg #[.slice a_57 (((MS.bump m aKey).1).s.length) c_58, .slice a_59 (((MS.bump m aKey).1).r.length) c_60, .slice a_61 (((MS.bump m aKey).1).w.length) c_62], .int .i64 ((MS.bump m aKey).2)]) rfl) ?_
            refine JL.pure rfl (PO.extract (v := .agg #[.slice a_57 (((MS.bump m aKey).1).s.length) c_58, .slice a_59 (((MS.bump m aKey).1).r.length) c_60, .slice a_61 (((MS.bump m aKey).1).w.length) c_62]) rfl rfl) ?_
            refine JL.pure rfl (PO.extract (v := .int .i64 ((MS.bump m aKey).2)) rfl rfl) ?_
            refine JL.op rfl (JO.alloc (z := .agg #[.slice none 0 0, .slice none 0 0, .slice none 0 0]) (cs := [.slice none 0 0, .slice none 0 0, .slice none 0 0]) Tryz.zeroValue29 rfl) ?_
            rintro _ _ ⟨b_63, rfl, rfl⟩
            refine JL.op rfl (JO.store 0 (vs := [.slice a_57 (((MS.bump m aKey).1).s.length) c_58, .slice a_59 (((MS.bump m aKey).1).r.length) c_60, .slice a_61 (((MS.bump m aKey).1).w.length) c_62]) (cs' := [.slice a_57 (((MS.bump m aKey).1).s.length) c_58, .slice a_59 (((MS.bump m aKey).1).r.length) c_60, .slice a_61 (((MS.bump m aKey).1).w.length) c_62]) rfl rfl rfl rfl Tryz.sizeOf29 rfl rfl (Nat.le_of_ble_eq_true rfl) rfl) ?_
            rintro _ _ rfl
            refine JL.pure rfl (PO.assign (v := .int .i64 ((MS.bump m aKey).2)) rfl) ?_
            refine JL.nil ?_
            refine JQ.seq ?_
            refine JC.seq ?_
            refine JC.seq ?_
            refine JC.region ?_
            refine JL.ld rfl (LO.loadK 0 (vs := [.slice a_57 (((MS.bump m aKey).1).s.length) c_58, .slice a_59 (((MS.bump m aKey).1).r.length) c_60, .slice a_61 (((MS.bump m aKey).1).w.length) c_62]) rfl rfl Tryz.isAgg29 Tryz.sizeOf29 rfl rfl) ?_
            refine JL.ld rfl (LO.loadK 18 (vs := [.slice a_10 (((MS.bump m aKey).1).s.length) c_11, .slice a_12 (((MS.bump m aKey).1).r.length) c_13, .slice a_14 (((MS.bump m aKey).1).w.length) c_15]) rfl rfl Tryz.isAgg29 Tryz.sizeOf29 rfl rfl) ?_
            refine JL.op rfl (JO.call [] Tryz.call26 rfl (C_eqMach a_57 a_59 a_61 a_10 a_12 a_14 c_58 c_60 c_62 c_11 c_13 c_15 (((MS.bump m aKey).1).s) (((MS.bump m aKey).1).r) (((MS.bump m aKey).1).w) (((MS.bump m aKey).1).s) (((MS.bump m aKey).1).r) (((MS.bump m aKey).1).w) (by omega) (by omega) (by omega)) rfl (fun w hw => ⟨hw.see (i := 1) rfl, hw.see (i := 2) rfl, hw.see (i := 3) rfl, hw.see (i := 19) rfl, hw.see (i := 20) rfl, hw.see (i := 21) rfl⟩)) ?_
            rintro _ _ ⟨_, ⟨rfl, rfl⟩, rfl⟩
            have heq_64 : (decide ((((MS.bump m aKey).1).s) = (((MS.bump m aKey).1).s)) && (decide ((((MS.bump m aKey).1).r) = (((MS.bump m aKey).1).r)) && decide ((((MS.bump m aKey).1).w) = (((MS.bump m aKey).1).w)))) = true := by simp
            refine JL.pure rfl (PO.not rfl) ?_
            refine JL.pure rfl (PO.move (v := .bool (!(decide ((((MS.bump m aKey).1).s) = (((MS.bump m aKey).1).s)) && (decide ((((MS.bump m aKey).1).r) = (((MS.bump m aKey).1).r)) && decide ((((MS.bump m aKey).1).w) = (((MS.bump m aKey).1).w)))))) rfl) ?_
            refine JL.guardOn rfl rfl rfl (congrArg Value.bool (congrArg Bool.not heq_64)) (JO.ofLO (LO.pure (PO.move (v := .int .i64 ((MS.bump m aKey).2)) rfl))) ?_
            rintro _ _ ⟨rfl, rfl⟩
            refine JL.guardOn rfl rfl rfl (congrArg Value.bool (congrArg Bool.not heq_64)) (JO.ofLO (LO.pure (PO.move (v := .int .i64 ((MS.bump m aKey).2)) rfl))) ?_
            rintro _ _ ⟨rfl, rfl⟩
            refine JL.guardOn rfl rfl rfl (congrArg Value.bool (congrArg Bool.not heq_64)) (JO.ofLO (LO.pure (PO.neqI rfl rfl))) ?_
            rintro _ _ ⟨rfl, rfl⟩
            refine JL.pure rfl (PO.pickF (v := .bool (!(decide (((MS.bump m aKey).2) = ((MS.bump m aKey).2))))) (congrArg Value.bool (congrArg Bool.not heq_64)) rfl) ?_
            refine JL.nil ?_
            refine JQ.seq ?_
            refine JC.condF (congrArg Value.bool (congrArg Bool.not (decide_eq_true rfl))) ?_
            refine JC.skip ?_
            refine JQ.seq ?_
            refine JC.seq ?_
            refine JC.region ?_
            refine JL.pure rfl (PO.assign (v := .int .i64 1) rfl) ?_
            refine JL.nil ?_
            refine JQ.seq ?_
            refine JC.seq ?_
            refine JC.region ?_
            refine JL.ld rfl (LO.loadK 16 (vs := [.slice a_24 (((MS.bump m aKey).1).s.length) c_25, .slice a_26 (((MS.bump m aKey).1).r.length) c_27, .slice a_28 (((MS.bump m aKey).1).w.length) c_29]) rfl rfl Tryz.isAgg29 Tryz.sizeOf29 rfl rfl) ?_
            refine JL.pure rfl (PO.move (v := .int .i64 1) rfl) ?_
            refine JL.op rfl (JO.call [] Tryz.call28 rfl (C_heldMach a_24 a_26 a_28 (((MS.bump m aKey).1).s.length) (((MS.bump m aKey).1).r.length) (((MS.bump m aKey).1).w.length) c_25 c_27 c_29 (markC (((MS.bump m aKey).1).s) 1) (markS (((MS.bump m aKey).1).r) (1 + 2 * (((MS.bump m aKey).1).s).length)) (markS (((MS.bump m aKey).1).w) (1 + 2 * (((MS.bump m aKey).1).s).length + (((MS.bump m aKey).1).r).length)) 1 (by first | rfl | exact markS_len _ _ | exact markC_len _ _ | assumption) (by first | rfl | exact markS_len _ _ | exact markC_len _ _ | assumption) (by first | rfl | exact markS_len _ _ | exact markC_len _ _ | assumption) (by omega) (by (try simp only [markC_len, markS_len]); omega)) rfl (fun w hw => ⟨hw.see (i := 7) rfl, hw.see (i := 8) rfl, hw.see (i := 9) rfl⟩)) ?_
            rintro _ _ ⟨_, ⟨rfl, rfl⟩, rfl⟩
            have hh_65 : heldM (markC (((MS.bump m aKey).1).s) 1) (markS (((MS.bump m aKey).1).r) (1 + 2 * (((MS.bump m aKey).1).s).length)) (markS (((MS.bump m aKey).1).w) (1 + 2 * (((MS.bump m aKey).1).s).length + (((MS.bump m aKey).1).r).length)) 1 = ((1 + 2 * (((MS.bump m aKey).1).s).length + (((MS.bump m aKey).1).r).length + (((MS.bump m aKey).1).w).length : Nat) : Int) := heldM_mark _ _ _ 1
            refine JL.pure rfl (PO.assign (v := .int .i64 (heldM (markC (((MS.bump m aKey).1).s) 1) (markS (((MS.bump m aKey).1).r) (1 + 2 * (((MS.bump m aKey).1).s).length)) (markS (((MS.bump m aKey).1).w) (1 + 2 * (((MS.bump m aKey).1).s).length + (((MS.bump m aKey).1).r).length)) 1)) rfl) ?_
            refine JL.nil ?_
            refine JQ.seq ?_
            refine JC.seq ?_
            refine JC.seq ?_
            refine JC.region ?_
            refine JL.pure rfl (PO.move (v := .int .i64 (heldM (markC (((MS.bump m aKey).1).s) 1) (markS (((MS.bump m aKey).1).r) (1 + 2 * (((MS.bump m aKey).1).s).length)) (markS (((MS.bump m aKey).1).w) (1 + 2 * (((MS.bump m aKey).1).s).length + (((MS.bump m aKey).1).r).length)) 1)) rfl) ?_
            refine JL.pure rfl (PO.lss rfl rfl) ?_
            refine JL.nil ?_
            refine JQ.seq ?_
            refine JC.condF (congrArg Value.bool (decide_eq_false h_49)) ?_
            refine JC.skip ?_
            refine JQ.seq ?_
            refine JC.seq ?_
            refine JC.seq ?_
            refine JC.region ?_
            refine JL.pure rfl (PO.move (v := .int .i64 (heldM (markC (((MS.bump m aKey).1).s) 1) (markS (((MS.bump m aKey).1).r) (1 + 2 * (((MS.bump m aKey).1).s).length)) (markS (((MS.bump m aKey).1).w) (1 + 2 * (((MS.bump m aKey).1).s).length + (((MS.bump m aKey).1).r).length)) 1)) rfl) ?_
            refine JL.pure rfl (PO.move (v := .int .i64 ((1 + 2 * (((MS.bump m aKey).1).s).length + (((MS.bump m aKey).1).r).length + (((MS.bump m aKey).1).w).length : Nat) : Int)) rfl) ?_
            refine JL.pure rfl (PO.neqI rfl rfl) ?_
            refine JL.nil ?_
            refine JQ.seq ?_
            refine JC.condF (congrArg Value.bool (congrArg Bool.not (decide_eq_true h_50))) ?_
            refine JC.skip ?_
            refine JQ.seq ?_
            refine JC.seq ?_
            refine JC.region ?_
            refine JL.pure rfl (PO.assign (v := .bool true) rfl) ?_
            refine JL.nil ?_
            refine JQ.seq ?_
            refine JC.ret ?_
            refine Done.one (.inl rfl) rfl (RV.tmp (v := .bool true) rfl) (List.nil_sublist _) ?_
            exact ⟨rfl, rfl⟩
          · skip
            exfalso; omega

end Go.Proofs.YtndahpodgmecnaaGreatDoor
