/-
  Texts of the walk, joined: what each one proves stands at its theorems.
-/
import Derived.Test.YtjncpgcccgdeiaaGreatDoorDatM
import Derived.Test.YtjncpgcccgdeiaaGreatDoorS52SPLIT
import Derived.Test.YtjncpgcccgdeiaaGreatDoorS55RECS
set_option linter.unusedSimpArgs false
set_option linter.unusedVariables false
set_option linter.unnecessarySimpa false
namespace Go.Proofs.YtjncpgcccgdeiaaGreatDoor
open Go Go.RowKit
attribute [local irreducible] JL JC JQ JO LO PO JA JX Ct
theorem Y_heldCellS (a : Option Addr) (c : Nat) (l : List Cell) (k : Nat) (h0 : 0 < k) (h1 : k + 2 * l.length ≤ 100000000) : Ct Tryz.prog 118 [.slice a l.length c, .int .i64 ((k : Nat) : Int)] [] (fun w => Sees w (.slice a l.length c) 2 l.length ((markC l k).flatMap encC)) (fun v A' => v = .int .i64 ((k + 2 * l.length : Nat) : Int) ∧ A' = []) :=
  (C_heldCellS a l.length c (markC l k) k (markC_len l k) h0 (by rw [markC_len]; omega)).weak (fun w h => by rw [markC_len]; exact h) fun v A' ⟨hv, hA⟩ => ⟨by rw [hv, heldC_mark], hA⟩

theorem E_szCellS (a : Option Addr) (c : Nat) (s : List Cell) (l : Int) (h0 : 0 ≤ l) (h1 : l ≤ 1048576) (hn : s.length ≤ 9223372036854775807) (hsz : ∀ j, j < s.length → (s.getD j c0).1.length ≤ 9223372036854775807 ∧ (s.getD j c0).2.length ≤ 9223372036854775807) :
    Ct Tryz.prog 139 [.slice a s.length c, .int .i64 l] [] (fun w => SeesE w (.slice a s.length c) 2 s.length (s.flatMap encC)) (fun r A' => r = .int .i64 (szCellS s l) ∧ A' = []) := by
  refine Ct.intro Tryz.func139 rfl Tryz.ntmps139 (Nat.le_of_ble_eq_true rfl) fun w0 hpre => ?_
  have hs_a' : SeesE w0 _ _ _ _ := hpre
  refine JC.seq ?_
  refine JC.region ?_
  refine JL.pure rfl (PO.assign (v := .int .i64 0) rfl) ?_
  refine JL.nil ?_
  refine JQ.seq ?_
  refine JC.seq ?_
  refine JC.region ?_
  refine JL.pure rfl (PO.move (v := .int .i64 l) rfl) ?_
  refine JL.pure rfl (PO.move (v := .slice a s.length c) rfl) ?_
  refine JL.pure rfl (PO.lenV Tryz.underlying116 rfl) ?_
  refine JL.pure rfl (PO.sub (c := l - ((s.length : Nat) : Int)) rfl rfl (wr (by omega))) ?_
  refine JL.pure rfl (PO.assign (v := .int .i64 (l - ((s.length : Nat) : Int))) rfl) ?_
  refine JL.nil ?_
  refine JQ.seq ?_
  refine JC.seq ?_
  refine JC.seq ?_
  refine JC.region ?_
  refine JL.pure rfl (PO.move (v := .int .i64 (l - ((s.length : Nat) : Int))) rfl) ?_
  refine JL.pure rfl (PO.lss rfl rfl) ?_
  refine JL.nil ?_
  refine JQ.seq ?_
  by_cases h_1 : (l - ((s.length : Nat) : Int)) < 0
  · skip
    refine JC.condT (congrArg Value.bool (decide_eq_true h_1)) ?_
    refine JC.seq ?_
    refine JC.region ?_
    refine JL.pure rfl (PO.assign (v := .int .i64 (-1)) rfl) ?_
    refine JL.nil ?_
    refine JQ.seq ?_
    refine JC.ret ?_
    refine JQ.thenRet ?_
    refine Done.one (.inl rfl) rfl (RV.tmp (v := .int .i64 (-1)) rfl) (List.nil_sublist _) ?_
    refine ⟨?_, rfl⟩
    rw [szCellS, if_pos (by omega)]
  · skip
    refine JC.condF (congrArg Value.bool (decide_eq_false h_1)) ?_
    refine JC.skip ?_
    refine JQ.seq ?_
    refine JC.seq ?_
    refine JC.seq ?_
    refine JC.region ?_
    refine JL.pure rfl (PO.assign (v := .int .i64 0) rfl) ?_
    refine JL.nil ?_
    refine JQ.seq ?_
    refine JC.block ?_
    refine JC.loop (fun k_ e_ L_ => ∃ j : Nat, ∃ l1 : Int, (j ≤ s.length) ∧ (0 ≤ l1) ∧ (l1 ≤ 1048576) ∧ (szCells (s.drop j) l1 = szCellS s l) ∧ e_ 0 = .slice a s.length c ∧ e_ 1 = .int .i64 l1 ∧ e_ 5 = .int .i64 ((j : Nat) : Int) ∧ L_ = [] ∧ k_ = s.length - j) _ ⟨0, (l - (s.length : Int)), by omega, by omega, by omega, (by rw [szCellS, if_neg (by omega)]; rfl), rfl, rfl, rfl, rfl, rfl⟩ ?_
    rintro _ e_2 _ ⟨j, l1, hj, hl, hl2, hR, he_3, he_4, he_5, rfl, rfl⟩
    refine JC.seq ?_
    refine JC.seq ?_
    refine JC.region ?_
    refine JL.pure rfl (PO.move (v := .int .i64 ((j : Nat) : Int)) he_5) ?_
    refine JL.pure rfl (PO.move (v := .slice a s.length c) he_3) ?_
    refine JL.pure rfl (PO.lenV Tryz.underlying116 rfl) ?_
    refine JL.pure rfl (PO.lss rfl rfl) ?_
    refine JL.nil ?_
    refine JQ.seq ?_
    by_cases h_6 : ((j : Nat) : Int) < ((s.length : Nat) : Int)
    · skip
      have hlt : j < s.length := by omega
      have hs_a : Sees w0 _ _ _ _ := hs_a'.full (by omega)
      refine JC.condT (congrArg Value.bool (decide_eq_true h_6)) ?_
      refine JC.skip ?_
      refine JQ.seq ?_
      refine JC.seq ?_
      refine JC.block ?_
      refine JC.seq ?_
      refine JC.region ?_
      refine JL.pure rfl (PO.move (v := .slice a s.length c) he_3) ?_
      refine JL.pure rfl (PO.move (v := .int .i64 ((j : Nat) : Int)) he_5) ?_
      obtain ⟨hr_7, hr_7b, -⟩ := sees_some hs_a (by omega)
      refine JL.pure rfl (PO.indexAddrV (i := j) Tryz.underlying116 Tryz.sizeOf160 hr_7 hr_7b rfl rfl (by omega)) ?_
      refine JL.ld rfl (LO.loadSK (vs := [str ((s.getD j c0).1), str ((s.getD j c0).2)]) hs_a (fun _ _ => List.not_mem_nil) rfl Tryz.isAgg160 Tryz.sizeOf160 (atC (by omega)) rfl (by decide)) ?_
      refine JL.pure rfl (PO.move (v := .int .i64 l1) he_4) ?_
      refine JL.op rfl (JO.call [] Tryz.call160 rfl (C_szCell ((s.getD j c0).1) ((s.getD j c0).2) l1 (by omega) (by omega) (hsz j (by omega)).1 (hsz j (by omega)).2) rfl (fun _ _ => trivial)) ?_
      rintro _ _ ⟨_, ⟨rfl, rfl⟩, rfl⟩
      refine JL.pure rfl (PO.assign (v := .int .i64 (szCell ((s.getD j c0).1) ((s.getD j c0).2) l1)) rfl) ?_
      refine JL.nil ?_
      refine JQ.seq ?_
      refine JC.seq ?_
      refine JC.region ?_
      refine JL.pure rfl (PO.move (v := .int .i64 (szCell ((s.getD j c0).1) ((s.getD j c0).2) l1)) rfl) ?_
      refine JL.pure rfl (PO.lss rfl rfl) ?_
      refine JL.nil ?_
      refine JQ.seq ?_
      by_cases h_8 : (szCell ((s.getD j c0).1) ((s.getD j c0).2) l1) < 0
      · skip
        have hneg := h_8
        refine JC.condT (congrArg Value.bool (decide_eq_true h_8)) ?_
        refine JC.seq ?_
        refine JC.region ?_
        refine JL.pure rfl (PO.assign (v := .int .i64 (-1)) rfl) ?_
        refine JL.nil ?_
        refine JQ.seq ?_
        refine JC.ret ?_
        refine JQ.blockRet ?_
        refine JQ.thenRet ?_
        refine JQ.thenRet ?_
        refine JQ.blockRet ?_
        refine JQ.thenRet ?_
        refine Done.one (.inl rfl) rfl (RV.tmp (v := .int .i64 (-1)) rfl) (List.nil_sublist _) ?_
        refine ⟨?_, rfl⟩
        rw [szCells_step hlt, if_pos hneg] at hR
        rw [← hR]
      · skip
        have hneg := h_8
        refine JC.condF (congrArg Value.bool (decide_eq_false h_8)) ?_
        refine JC.skip ?_
        refine JQ.blockN ?_
        refine JQ.seq ?_
        refine JC.region ?_
        refine JL.pure rfl (PO.move (v := .int .i64 ((j : Nat) : Int)) he_5) ?_
        refine JL.pure rfl (PO.add (c := ((j + 1 : Nat) : Int)) rfl rfl (wr (by omega))) ?_
        refine JL.pure rfl (PO.assign (v := .int .i64 ((j + 1 : Nat) : Int)) rfl) ?_
        refine JL.nil ?_
        refine JQ.again (s.length - (j + 1)) (by omega) ⟨j + 1, szCell ((s.getD j c0).1) ((s.getD j c0).2) l1, by omega, by omega, by have := szCell_le (s.getD j c0).1 (s.getD j c0).2 l1 (by omega); omega, (by rw [szCells_step hlt, if_neg hneg] at hR; exact hR), he_3, rfl, rfl, rfl, rfl⟩
    · skip
      refine JC.condF (congrArg Value.bool (decide_eq_false h_6)) ?_
      refine JC.exit ?_
      refine JQ.thenExit ?_
      refine JQ.thenExit ?_
      refine JQ.blockE ?_
      refine JQ.seq ?_
      refine JC.seq ?_
      refine JC.region ?_
      refine JL.pure rfl (PO.move (v := .int .i64 l1) he_4) ?_
      refine JL.pure rfl (PO.assign (v := .int .i64 l1) rfl) ?_
      refine JL.nil ?_
      refine JQ.seq ?_
      refine JC.ret ?_
      refine Done.one (.inl rfl) rfl (RV.tmp (v := .int .i64 l1) rfl) (List.nil_sublist _) ?_
      refine ⟨?_, rfl⟩
      rw [List.drop_of_length_le (by omega)] at hR
      rw [← hR]
      rfl

theorem E_toCellS (a : Option Addr) (c : Nat) (s : List Cell) (hn : s.length ≤ 1048576) :
    Ct Tryz.prog 141 [.slice a s.length c] [] (fun w => SeesE w (.slice a s.length c) 2 s.length (s.flatMap encC)) (fun r A' => ∃ a' c', r = .slice a' s.length c' ∧ A' = [.row (.slice a' s.length c') 48 2 s.length (s.flatMap encC)]) := by
  refine Ct.intro Tryz.func141 rfl Tryz.ntmps141 (Nat.le_of_ble_eq_true rfl) fun w0 hpre => ?_
  have hs_a' : SeesE w0 _ _ _ _ := hpre
  refine JC.seq ?_
  refine JC.region ?_
  refine JL.pure rfl (PO.assign (v := .slice none 0 0) rfl) ?_
  refine JL.nil ?_
  refine JQ.seq ?_
  refine JC.seq ?_
  refine JC.region ?_
  refine JL.pure rfl (PO.move (v := .slice a s.length c) rfl) ?_
  refine JL.pure rfl (PO.lenV Tryz.underlying116 rfl) ?_
  refine JL.op rfl (JO.makeSlice (z := .agg #[str [], str []]) (zc := [str [], str []]) (m := s.length) Tryz.underlying49 Tryz.typeInfo48 rfl rfl rfl rfl rfl (by unfold maxLen; omega) (by show 32 * _ ≤ _; omega)) ?_
  rintro _ _ ⟨a_1, rfl, rfl⟩
  refine JL.pure rfl (PO.assign (v := .slice a_1 s.length s.length) rfl) ?_
  refine JL.nil ?_
  refine JQ.seq ?_
  refine JC.seq ?_
  refine JC.seq ?_
  refine JC.region ?_
  refine JL.pure rfl (PO.assign (v := .int .i64 0) rfl) ?_
  refine JL.nil ?_
  refine JQ.seq ?_
  refine JC.block ?_
  refine JC.loop (fun k_ e_ L_ => ∃ j : Nat, (j ≤ s.length) ∧ e_ 0 = .slice a s.length c ∧ e_ 2 = .slice none 0 0 ∧ e_ 3 = .slice a_1 s.length s.length ∧ e_ 4 = .int .i64 ((j : Nat) : Int) ∧ L_ = [Res.row (.slice a_1 s.length s.length) 48 2 s.length ((s.take j ++ List.replicate (s.length - j) c0).flatMap encC)] ∧ k_ = s.length - j) _ ⟨0, by omega, rfl, rfl, rfl, rfl, (by rw [replC]; rfl), rfl⟩ ?_
  rintro _ e_2 _ ⟨j, hj, he_3, he_4, he_5, he_6, rfl, rfl⟩
  refine JC.seq ?_
  refine JC.seq ?_
  refine JC.region ?_
  refine JL.pure rfl (PO.move (v := .int .i64 ((j : Nat) : Int)) he_6) ?_
  refine JL.pure rfl (PO.move (v := .slice a s.length c) he_3) ?_
  refine JL.pure rfl (PO.lenV Tryz.underlying116 rfl) ?_
  refine JL.pure rfl (PO.lss rfl rfl) ?_
  refine JL.nil ?_
  refine JQ.seq ?_
  by_cases h_7 : ((j : Nat) : Int) < ((s.length : Nat) : Int)
  · skip
    have hlt : j < s.length := by omega
    have hs_a : Sees w0 _ _ _ _ := hs_a'.full (by omega)
    refine JC.condT (congrArg Value.bool (decide_eq_true h_7)) ?_
    refine JC.skip ?_
    refine JQ.seq ?_
    refine JC.seq ?_
    refine JC.block ?_
    refine JC.region ?_
    refine JL.pure rfl (PO.move (v := .slice a_1 s.length s.length) he_5) ?_
    refine JL.pure rfl (PO.move (v := .int .i64 ((j : Nat) : Int)) he_6) ?_
    refine JL.pure rfl (PO.move (v := .slice a s.length c) he_3) ?_
    refine JL.pure rfl (PO.move (v := .int .i64 ((j : Nat) : Int)) he_6) ?_
    obtain ⟨hr_8, hr_8b, -⟩ := sees_some hs_a (by omega)
    refine JL.pure rfl (PO.indexAddrV (i := j) Tryz.underlying116 Tryz.sizeOf160 hr_8 hr_8b rfl rfl (by omega)) ?_
    refine JL.ld rfl (LO.loadSK (vs := [str ((s.getD j c0).1), str ((s.getD j c0).2)]) hs_a (fun _ _ => List.not_mem_nil) rfl Tryz.isAgg160 Tryz.sizeOf160 (atC (by omega)) rfl (by decide)) ?_
    refine JL.op rfl (JO.call [] Tryz.call161 rfl (C_toCell ((s.getD j c0).1) ((s.getD j c0).2)) rfl (fun _ _ => trivial)) ?_
    rintro _ _ ⟨_, ⟨rfl, rfl⟩, rfl⟩
    refine JL.facts fun hst => ?_
    obtain ⟨hr_9, hr_9b, -⟩ := row_some 0 rfl (by omega) hst
    refine JL.pure rfl (PO.indexAddrV (i := j) Tryz.underlying49 Tryz.sizeOf48 hr_9 hr_9b rfl rfl (by omega)) ?_
    refine JL.op rfl (JO.storeR 0 (vs := [str ((s.getD j c0).1), str ((s.getD j c0).2)]) (cs' := ((s.take j ++ List.replicate (s.length - j) c0).set j ((s.getD j c0).1, (s.getD j c0).2)).flatMap encC) rfl rfl rfl rfl Tryz.sizeOf48 rfl rfl (by decide) (by rw [lenC]; rw [fill_len c0 hj]; omega) (setC (by rw [fill_len c0 hj]; omega))) ?_
    rintro _ _ rfl
    refine JL.nil ?_
    refine JQ.blockN ?_
    refine JQ.seq ?_
    refine JC.region ?_
    refine JL.pure rfl (PO.move (v := .int .i64 ((j : Nat) : Int)) he_6) ?_
    refine JL.pure rfl (PO.add (c := ((j + 1 : Nat) : Int)) rfl rfl (wr (by omega))) ?_
    refine JL.pure rfl (PO.assign (v := .int .i64 ((j + 1 : Nat) : Int)) rfl) ?_
    refine JL.nil ?_
    refine JQ.again (s.length - (j + 1)) (by omega) ⟨j + 1, by omega, he_3, he_4, he_5, rfl, (by rw [← fill_step c0 hlt]; rfl), rfl⟩
  · skip
    refine JC.condF (congrArg Value.bool (decide_eq_false h_7)) ?_
    refine JC.exit ?_
    refine JQ.thenExit ?_
    refine JQ.thenExit ?_
    refine JQ.blockE ?_
    refine JQ.seq ?_
    refine JC.seq ?_
    refine JC.region ?_
    refine JL.pure rfl (PO.move (v := .slice a_1 s.length s.length) he_5) ?_
    refine JL.pure rfl (PO.assign (v := .slice a_1 s.length s.length) rfl) ?_
    refine JL.nil ?_
    refine JQ.seq ?_
    refine JC.ret ?_
    refine Done.one (.inl rfl) rfl (RV.tmp (v := .slice a_1 s.length s.length) rfl) (List.Sublist.refl _) ?_
    exact ⟨_, _, rfl, by rw [fill_done c0 (by omega)]⟩

theorem C_szSlot (p : OX) (l : Int) (h0 : 0 ≤ l) (h1 : l ≤ 1048576) (hz : p.t.okz) :
    Ct Tryz.prog 104 [.agg #[.int .i64 p.t.seq, .slice p.x.a0 p.t.cells.length p.x.c0, .bool p.t.whole], .int .i64 l] [] (fun w => SeesAE w (rdsO p)) (fun r A' => r = .int .i64 (szSlotF p.t l) ∧ A' = []) := by
  refine Ct.intro Tryz.func104 rfl Tryz.ntmps104 (Nat.le_of_ble_eq_true rfl) fun w0 hpre => ?_
  have hs_1 := seesOE hpre
  refine JC.seq ?_
  refine JC.region ?_
  refine JL.op rfl (JO.box (cs := [.int .i64 p.t.seq, .slice p.x.a0 p.t.cells.length p.x.c0, .bool p.t.whole]) rfl rfl) ?_
  rintro _ _ ⟨b_2, rfl, rfl⟩
  refine JL.pure rfl (PO.assign (v := .int .i64 0) rfl) ?_
  refine JL.nil ?_
  refine JQ.seq ?_
  refine JC.seq ?_
  refine JC.region ?_
  refine JL.pure rfl (PO.fieldAddr fo118_1 rfl) ?_
  refine JL.ld rfl (LO.load1 0 (v := .slice p.x.a0 p.t.cells.length p.x.c0) rfl rfl Tryz.isAgg116 rfl) ?_
  refine JL.pure rfl (PO.move (v := .int .i64 l) rfl) ?_
  refine JL.op rfl (JO.call [] Tryz.call139 rfl (E_szCellS p.x.a0 p.x.c0 p.t.cells l (by omega) (by omega) hz.k0.1 hz.k0.2) rfl (fun w hw => hw.seeOutE hs_1 (fun _ _ => List.not_mem_nil))) ?_
  rintro _ _ ⟨_, ⟨rfl, rfl⟩, rfl⟩
  have hle_3 := szCellS_le p.t.cells l (by omega)
  refine JL.pure rfl (PO.assign (v := .int .i64 (szCellS p.t.cells l)) rfl) ?_
  refine JL.nil ?_
  refine JQ.seq ?_
  refine JC.seq ?_
  refine JC.seq ?_
  refine JC.region ?_
  refine JL.pure rfl (PO.move (v := .int .i64 (szCellS p.t.cells l)) rfl) ?_
  refine JL.pure rfl (PO.lss rfl rfl) ?_
  refine JL.nil ?_
  refine JQ.seq ?_
  by_cases h_4 : (szCellS p.t.cells l) < 0
  · skip
    refine JC.condT (congrArg Value.bool (decide_eq_true h_4)) ?_
    refine JC.seq ?_
    refine JC.region ?_
    refine JL.pure rfl (PO.assign (v := .int .i64 (-1)) rfl) ?_
    refine JL.nil ?_
    refine JQ.seq ?_
    refine JC.ret ?_
    refine JQ.thenRet ?_
    refine Done.one (.inl rfl) rfl (RV.tmp (v := .int .i64 (-1)) rfl) (List.nil_sublist _) ?_
    refine ⟨congrArg (Value.int .i64) ?_, rfl⟩
    simp only [szSlotF, chk, id_eq]
    (repeat (first | rw [if_pos (by omega)] | rw [if_neg (by omega)]))
  · skip
    refine JC.condF (congrArg Value.bool (decide_eq_false h_4)) ?_
    refine JC.skip ?_
    refine JQ.seq ?_
    refine JC.seq ?_
    refine JC.region ?_
    refine JL.pure rfl (PO.move (v := .int .i64 (szCellS p.t.cells l)) rfl) ?_
    refine JL.pure rfl (PO.assign (v := .int .i64 (szCellS p.t.cells l)) rfl) ?_
    refine JL.nil ?_
    refine JQ.seq ?_
    refine JC.ret ?_
    refine Done.one (.inl rfl) rfl (RV.tmp (v := .int .i64 (szCellS p.t.cells l)) rfl) (List.nil_sublist _) ?_
    refine ⟨congrArg (Value.int .i64) ?_, rfl⟩
    simp only [szSlotF, chk, id_eq]
    (repeat (first | rw [if_pos (by omega)] | rw [if_neg (by omega)]))

theorem C_toSlot (p : OX) (hl : p.t.lim 1048576) :
    Ct Tryz.prog 108 [.agg #[.int .i64 p.t.seq, .slice p.x.a0 p.t.cells.length p.x.c0, .bool p.t.whole]] [] (fun w => SeesAE w (rdsO p)) (fun v A' => ∃ y : OX, y.t = p.t ∧ v = .agg #[.int .i64 y.t.seq, .slice y.x.a0 y.t.cells.length y.x.c0, .bool y.t.whole] ∧ A' = [.rows (rdsO y)]) := by
  obtain ⟨hb0⟩ := hl
  refine Ct.intro Tryz.func108 rfl Tryz.ntmps108 (Nat.le_of_ble_eq_true rfl) fun w0 hpre => ?_
  have hs_1 := seesOE hpre
  refine JC.seq ?_
  refine JC.region ?_
  refine JL.op rfl (JO.box (cs := [.int .i64 p.t.seq, .slice p.x.a0 p.t.cells.length p.x.c0, .bool p.t.whole]) rfl rfl) ?_
  rintro _ _ ⟨b_2, rfl, rfl⟩
  refine JL.op rfl (JO.alloc (z := .agg #[.int .i64 0, .slice none 0 0, .bool false]) (cs := [.int .i64 0, .slice none 0 0, .bool false]) Tryz.zeroValue60 rfl) ?_
  rintro _ _ ⟨b_3, rfl, rfl⟩
  refine JL.nil ?_
  refine JQ.seq ?_
  refine JC.seq ?_
  refine JC.region ?_
  refine JL.op rfl (JO.alloc (z := .agg #[.int .i64 0, .slice none 0 0, .bool false]) (cs := [.int .i64 0, .slice none 0 0, .bool false]) Tryz.zeroValue60 rfl) ?_
  rintro _ _ ⟨b_4, rfl, rfl⟩
  refine JL.nil ?_
  refine JQ.seq ?_
  refine JC.seq ?_
  refine JC.region ?_
  refine JL.pure rfl (PO.fieldAddr fo118_0 rfl) ?_
  refine JL.ld rfl (LO.load1 2 (v := .int .i64 p.t.seq) rfl rfl Tryz.isAgg3 rfl) ?_
  refine JL.pure rfl (PO.fieldAddr fo60_0 rfl) ?_
  refine JL.op rfl (JO.store 0 (vs := [.int .i64 p.t.seq]) (cs' := [.int .i64 p.t.seq, .slice none 0 0, .bool false]) rfl rfl rfl rfl Tryz.sizeOf3 rfl rfl (Nat.le_of_ble_eq_true rfl) rfl) ?_
  rintro _ _ rfl
  refine JL.nil ?_
  refine JQ.seq ?_
  refine JC.seq ?_
  refine JC.region ?_
  refine JL.pure rfl (PO.fieldAddr fo118_1 rfl) ?_
  refine JL.ld rfl (LO.load1 2 (v := .slice p.x.a0 p.t.cells.length p.x.c0) rfl rfl Tryz.isAgg116 rfl) ?_
  refine JL.op rfl (JO.call [] Tryz.call141 rfl (E_toCellS p.x.a0 p.x.c0 p.t.cells (by omega)) rfl (fun w hw => hw.seeOutE hs_1 (fun _ _ => List.not_mem_nil))) ?_
  rintro _ _ ⟨_, ⟨a_5, c_6, rfl, rfl⟩, rfl⟩
  refine JL.pure rfl (PO.fieldAddr fo60_1 rfl) ?_
  refine JL.op rfl (JO.store 1 (vs := [.slice a_5 p.t.cells.length c_6]) (cs' := [.int .i64 p.t.seq, .slice a_5 p.t.cells.length c_6, .bool false]) rfl rfl rfl rfl Tryz.sizeOf49 rfl rfl (Nat.le_of_ble_eq_true rfl) rfl) ?_
  rintro _ _ rfl
  refine JL.nil ?_
  refine JQ.seq ?_
  refine JC.seq ?_
  refine JC.region ?_
  refine JL.pure rfl (PO.fieldAddr fo118_2 rfl) ?_
  refine JL.ld rfl (LO.load1 3 (v := .bool p.t.whole) rfl rfl Tryz.isAgg4 rfl) ?_
  refine JL.pure rfl (PO.fieldAddr fo60_2 rfl) ?_
  refine JL.op rfl (JO.store 1 (vs := [.bool p.t.whole]) (cs' := [.int .i64 p.t.seq, .slice a_5 p.t.cells.length c_6, .bool p.t.whole]) rfl rfl rfl rfl Tryz.sizeOf4 rfl rfl (Nat.le_of_ble_eq_true rfl) rfl) ?_
  rintro _ _ rfl
  refine JL.nil ?_
  refine JQ.seq ?_
  refine JC.seq ?_
  refine JC.region ?_
  refine JL.ld rfl (LO.loadK 1 (vs := [.int .i64 p.t.seq, .slice a_5 p.t.cells.length c_6, .bool p.t.whole]) rfl rfl Tryz.isAgg60 Tryz.sizeOf60 rfl rfl) ?_
  refine JL.op rfl (JO.store 2 (vs := [.int .i64 p.t.seq, .slice a_5 p.t.cells.length c_6, .bool p.t.whole]) (cs' := [.int .i64 p.t.seq, .slice a_5 p.t.cells.length c_6, .bool p.t.whole]) rfl rfl rfl rfl Tryz.sizeOf60 rfl rfl (Nat.le_of_ble_eq_true rfl) rfl) ?_
  rintro _ _ rfl
  refine JL.nil ?_
  refine JQ.seq ?_
  refine JC.ret ?_
  refine JQ.ghost (L' := [Res.rows (rdsO (⟨⟨a_5, c_6⟩, p.t⟩ : OX)), bk b_4 60 [.int .i64 p.t.seq, .slice a_5 p.t.cells.length c_6, .bool p.t.whole], bk b_3 60 [.int .i64 p.t.seq, .slice a_5 p.t.cells.length c_6, .bool p.t.whole], bk b_2 118 [.int .i64 p.t.seq, .slice p.x.a0 p.t.cells.length p.x.c0, .bool p.t.whole]]) (fun w hw => hw.closeR (A := rdsO (⟨⟨a_5, c_6⟩, p.t⟩ : OX)) [0] rfl) ?_
  refine Done.one (.inl rfl) rfl (RV.cell1 (LO.loadK 2 (vs := [.int .i64 p.t.seq, .slice a_5 p.t.cells.length c_6, .bool p.t.whole]) rfl rfl Tryz.isAgg60 Tryz.sizeOf60 rfl rfl) ⟨_, rfl⟩) (List.sublist_append_left [Res.rows (rdsO (⟨⟨a_5, c_6⟩, p.t⟩ : OX))] [bk b_4 60 [.int .i64 p.t.seq, .slice a_5 p.t.cells.length c_6, .bool p.t.whole], bk b_3 60 [.int .i64 p.t.seq, .slice a_5 p.t.cells.length c_6, .bool p.t.whole], bk b_2 118 [.int .i64 p.t.seq, .slice p.x.a0 p.t.cells.length p.x.c0, .bool p.t.whole]]) ?_
  exact ⟨(⟨⟨a_5, c_6⟩, p.t⟩ : OX), rfl, rfl, rfl⟩

theorem C_eqSlot (p q : OX) (hl : p.t.lim 1000000000) :
    Ct Tryz.prog 116 [.agg #[.int .i64 p.t.seq, .slice p.x.a0 p.t.cells.length p.x.c0, .bool p.t.whole], .agg #[.int .i64 q.t.seq, .slice q.x.a0 q.t.cells.length q.x.c0, .bool q.t.whole]] [] (fun w => SeesA w (rdsO p) ∧ SeesA w (rdsO q)) (fun v A' => v = .bool (decide (p.t = q.t)) ∧ A' = []) := by
  obtain ⟨hb0⟩ := hl
  refine Ct.intro Tryz.func116 rfl Tryz.ntmps116 (Nat.le_of_ble_eq_true rfl) fun w0 hpre => ?_
  have hs_1 := seesO hpre.1
  have hs_2 := seesO hpre.2
  refine JC.seq ?_
  refine JC.region ?_
  refine JL.op rfl (JO.box (cs := [.int .i64 p.t.seq, .slice p.x.a0 p.t.cells.length p.x.c0, .bool p.t.whole]) rfl rfl) ?_
  rintro _ _ ⟨b_3, rfl, rfl⟩
  refine JL.op rfl (JO.box (cs := [.int .i64 q.t.seq, .slice q.x.a0 q.t.cells.length q.x.c0, .bool q.t.whole]) rfl rfl) ?_
  rintro _ _ ⟨b_4, rfl, rfl⟩
  refine JL.pure rfl (PO.assign (v := .bool false) rfl) ?_
  refine JL.nil ?_
  refine JQ.seq ?_
  refine JC.seq ?_
  refine JC.seq ?_
  refine JC.region ?_
  refine JL.pure rfl (PO.fieldAddr fo60_0 rfl) ?_
  refine JL.ld rfl (LO.load1 1 (v := .int .i64 p.t.seq) rfl rfl Tryz.isAgg3 rfl) ?_
  refine JL.pure rfl (PO.fieldAddr fo60_0 rfl) ?_
  refine JL.ld rfl (LO.load1 0 (v := .int .i64 q.t.seq) rfl rfl Tryz.isAgg3 rfl) ?_
  refine JL.pure rfl (PO.neqI rfl rfl) ?_
  refine JL.nil ?_
  refine JQ.seq ?_
  by_cases h_5 : p.t.seq = q.t.seq
  · skip
    refine JC.condF (congrArg Value.bool (congrArg Bool.not (decide_eq_true h_5))) ?_
    refine JC.skip ?_
    refine JQ.seq ?_
    refine JC.seq ?_
    refine JC.seq ?_
    refine JC.region ?_
    refine JL.pure rfl (PO.fieldAddr fo60_1 rfl) ?_
    refine JL.ld rfl (LO.load1 1 (v := .slice p.x.a0 p.t.cells.length p.x.c0) rfl rfl Tryz.isAgg49 rfl) ?_
    refine JL.pure rfl (PO.fieldAddr fo60_1 rfl) ?_
    refine JL.ld rfl (LO.load1 0 (v := .slice q.x.a0 q.t.cells.length q.x.c0) rfl rfl Tryz.isAgg49 rfl) ?_
    refine JL.op rfl (JO.call [] Tryz.call149 rfl (C_eqCellS p.x.a0 q.x.a0 p.x.c0 q.x.c0 p.t.cells q.t.cells (by omega)) rfl (fun w hw => ⟨hw.seeOut_ hs_1 (fun _ _ => List.not_mem_nil), hw.seeOut_ hs_2 (fun _ _ => List.not_mem_nil)⟩)) ?_
    rintro _ _ ⟨_, ⟨rfl, rfl⟩, rfl⟩
    refine JL.pure rfl (PO.not rfl) ?_
    refine JL.nil ?_
    refine JQ.seq ?_
    by_cases h_6 : p.t.cells = q.t.cells
    · skip
      refine JC.condF (congrArg Value.bool (congrArg Bool.not (decide_eq_true h_6))) ?_
      refine JC.skip ?_
      refine JQ.seq ?_
      refine JC.seq ?_
      refine JC.seq ?_
      refine JC.region ?_
      refine JL.pure rfl (PO.fieldAddr fo60_2 rfl) ?_
      refine JL.ld rfl (LO.load1 1 (v := .bool p.t.whole) rfl rfl Tryz.isAgg4 rfl) ?_
      refine JL.pure rfl (PO.fieldAddr fo60_2 rfl) ?_
      refine JL.ld rfl (LO.load1 0 (v := .bool q.t.whole) rfl rfl Tryz.isAgg4 rfl) ?_
      refine JL.pure rfl (PO.neqB Tryz.underlying4 rfl rfl) ?_
      refine JL.nil ?_
      refine JQ.seq ?_
      by_cases h_7 : p.t.whole = q.t.whole
      · skip
        refine JC.condF (congrArg Value.bool (congrArg Bool.not (decide_eq_true h_7))) ?_
        refine JC.skip ?_
        refine JQ.seq ?_
        refine JC.seq ?_
        refine JC.region ?_
        refine JL.pure rfl (PO.assign (v := .bool true) rfl) ?_
        refine JL.nil ?_
        refine JQ.seq ?_
        refine JC.ret ?_
        refine Done.one (.inl rfl) rfl (RV.tmp (v := .bool true) rfl) (List.nil_sublist _) ?_
        exact ⟨congrArg Value.bool (decide_eq_true (SD.same.2 ⟨by assumption, by assumption, by assumption⟩)).symm, rfl⟩
      · skip
        refine JC.condT (congrArg Value.bool (congrArg Bool.not (decide_eq_false h_7))) ?_
        refine JC.seq ?_
        refine JC.region ?_
        refine JL.pure rfl (PO.assign (v := .bool false) rfl) ?_
        refine JL.nil ?_
        refine JQ.seq ?_
        refine JC.ret ?_
        refine JQ.thenRet ?_
        refine Done.one (.inl rfl) rfl (RV.tmp (v := .bool false) rfl) (List.nil_sublist _) ?_
        exact ⟨congrArg Value.bool (decide_eq_false (fun h_ => by obtain ⟨h_0, h_1, h_2⟩ := SD.same.1 h_; first | contradiction | (exact absurd ⟨h_6, h_7⟩ ‹¬(_ ∧ _)›))).symm, rfl⟩
    · skip
      refine JC.condT (congrArg Value.bool (congrArg Bool.not (decide_eq_false h_6))) ?_
      refine JC.seq ?_
      refine JC.region ?_
      refine JL.pure rfl (PO.assign (v := .bool false) rfl) ?_
      refine JL.nil ?_
      refine JQ.seq ?_
      refine JC.ret ?_
      refine JQ.thenRet ?_
      refine Done.one (.inl rfl) rfl (RV.tmp (v := .bool false) rfl) (List.nil_sublist _) ?_
      exact ⟨congrArg Value.bool (decide_eq_false (fun h_ => by obtain ⟨h_0, h_1, h_2⟩ := SD.same.1 h_; first | contradiction | (exact absurd ⟨h_6, h_7⟩ ‹¬(_ ∧ _)›))).symm, rfl⟩
  · skip
    refine JC.condT (congrArg Value.bool (congrArg Bool.not (decide_eq_false h_5))) ?_
    refine JC.seq ?_
    refine JC.region ?_
    refine JL.pure rfl (PO.assign (v := .bool false) rfl) ?_
    refine JL.nil ?_
    refine JQ.seq ?_
    refine JC.ret ?_
    refine JQ.thenRet ?_
    refine Done.one (.inl rfl) rfl (RV.tmp (v := .bool false) rfl) (List.nil_sublist _) ?_
    exact ⟨congrArg Value.bool (decide_eq_false (fun h_ => by obtain ⟨h_0, h_1, h_2⟩ := SD.same.1 h_; first | contradiction | (exact absurd ⟨h_6, h_7⟩ ‹¬(_ ∧ _)›))).symm, rfl⟩

theorem C_szSlotS (a : Option Addr) (c : Nat) (s : List OX) (l : Int) (h0 : 0 ≤ l) (h1 : l ≤ 1048576) (hn : s.length ≤ 9223372036854775807) (hse : ∀ j, j < s.length → (s.getD j o0).t.okz) :
    Ct Tryz.prog 54 [.slice a s.length c, .int .i64 l] [] (fun w => SeesAE w (rdsOS a c s)) (fun r A' => r = .int .i64 (szLS szSlotF (s.map OX.t) l) ∧ A' = []) := by
  refine Ct.intro Tryz.func54 rfl Tryz.ntmps54 (Nat.le_of_ble_eq_true rfl) fun w0 hpre => ?_
  have hs_1 : SeesE w0 (.slice a s.length c) 3 s.length (s.flatMap encO) := (hpre).head
  have hi_2 : SeesAE w0 (s.flatMap rdsO) := (hpre).tail
  refine JC.seq ?_
  refine JC.region ?_
  refine JL.pure rfl (PO.assign (v := .int .i64 0) rfl) ?_
  refine JL.nil ?_
  refine JQ.seq ?_
  refine JC.seq ?_
  refine JC.region ?_
  refine JL.pure rfl (PO.move (v := .int .i64 l) rfl) ?_
  refine JL.pure rfl (PO.move (v := .slice a s.length c) rfl) ?_
  refine JL.pure rfl (PO.lenV Tryz.underlying22 rfl) ?_
  refine JL.pure rfl (PO.sub (c := l - ((s.length : Nat) : Int)) rfl rfl (wr (by omega))) ?_
  refine JL.pure rfl (PO.assign (v := .int .i64 (l - ((s.length : Nat) : Int))) rfl) ?_
  refine JL.nil ?_
  refine JQ.seq ?_
  refine JC.seq ?_
  refine JC.seq ?_
  refine JC.region ?_
  refine JL.pure rfl (PO.move (v := .int .i64 (l - ((s.length : Nat) : Int))) rfl) ?_
  refine JL.pure rfl (PO.lss rfl rfl) ?_
  refine JL.nil ?_
  refine JQ.seq ?_
  by_cases h_3 : (l - ((s.length : Nat) : Int)) < 0
  · skip
    refine JC.condT (congrArg Value.bool (decide_eq_true h_3)) ?_
    refine JC.seq ?_
    refine JC.region ?_
    refine JL.pure rfl (PO.assign (v := .int .i64 (-1)) rfl) ?_
    refine JL.nil ?_
    refine JQ.seq ?_
    refine JC.ret ?_
    refine JQ.thenRet ?_
    refine Done.one (.inl rfl) rfl (RV.tmp (v := .int .i64 (-1)) rfl) (List.nil_sublist _) ?_
    refine ⟨?_, rfl⟩
    rw [szLS, List.length_map, if_pos (by omega)]
  · skip
    refine JC.condF (congrArg Value.bool (decide_eq_false h_3)) ?_
    refine JC.skip ?_
    refine JQ.seq ?_
    refine JC.seq ?_
    refine JC.seq ?_
    refine JC.region ?_
    refine JL.pure rfl (PO.assign (v := .int .i64 0) rfl) ?_
    refine JL.nil ?_
    refine JQ.seq ?_
    refine JC.block ?_
    refine JC.loop (fun k_ e_ L_ => ∃ j : Nat, ∃ l1 : Int, (j ≤ s.length) ∧ (0 ≤ l1) ∧ (l1 ≤ 1048576) ∧ (szL szSlotF ((s.map OX.t).drop j) l1 = szLS szSlotF (s.map OX.t) l) ∧ e_ 0 = .slice a s.length c ∧ e_ 1 = .int .i64 l1 ∧ e_ 5 = .int .i64 ((j : Nat) : Int) ∧ L_ = [] ∧ k_ = s.length - j) _ ⟨0, (l - (s.length : Int)), by omega, by omega, by omega, (by rw [szLS, List.length_map, if_neg (by omega)]; rfl), rfl, rfl, rfl, rfl, rfl⟩ ?_
    rintro _ e_4 _ ⟨j, l1, hj, hl, hl2, hR, he_5, he_6, he_7, rfl, rfl⟩
    refine JC.seq ?_
    refine JC.seq ?_
    refine JC.region ?_
    refine JL.pure rfl (PO.move (v := .int .i64 ((j : Nat) : Int)) he_7) ?_
    refine JL.pure rfl (PO.move (v := .slice a s.length c) he_5) ?_
    refine JL.pure rfl (PO.lenV Tryz.underlying22 rfl) ?_
    refine JL.pure rfl (PO.lss rfl rfl) ?_
    refine JL.nil ?_
    refine JQ.seq ?_
    by_cases h_8 : ((j : Nat) : Int) < ((s.length : Nat) : Int)
    · skip
      have hlt : j < s.length := by omega
      have hf_9 := SeesE.full hs_1 (by omega)
      refine JC.condT (congrArg Value.bool (decide_eq_true h_8)) ?_
      refine JC.skip ?_
      refine JQ.seq ?_
      refine JC.seq ?_
      refine JC.block ?_
      refine JC.seq ?_
      refine JC.region ?_
      refine JL.pure rfl (PO.move (v := .slice a s.length c) he_5) ?_
      refine JL.pure rfl (PO.move (v := .int .i64 ((j : Nat) : Int)) he_7) ?_
      obtain ⟨hr_10, hr_10b, -⟩ := sees_some hf_9 (by omega)
      refine JL.pure rfl (PO.indexAddrV (i := j) Tryz.underlying22 Tryz.sizeOf118 hr_10 hr_10b rfl rfl (by omega)) ?_
      have hi_11 := SeesAE.elem hi_2 o0 (show j < s.length by omega)
      have hs_12 := seesOE hi_11
      refine JL.ld rfl (LO.loadSK (vs := [.int .i64 ((s.getD j o0).t.seq), .slice ((s.getD j o0).x.a0) ((s.getD j o0).t.cells.length) ((s.getD j o0).x.c0), .bool ((s.getD j o0).t.whole)]) hf_9 (fun _ _ => List.not_mem_nil) rfl Tryz.isAgg118 Tryz.sizeOf118 (flat_take encO_len o0 s j (by omega)) rfl (by decide)) ?_
      refine JL.pure rfl (PO.move (v := .int .i64 l1) he_6) ?_
      refine JL.op rfl (JO.call [] Tryz.call104 rfl (C_szSlot (s.getD j o0) l1 (by omega) (by omega) (hse j hlt)) rfl (fun w hw => hw.seeOutAE hi_11 nMA)) ?_
      rintro _ _ ⟨_, ⟨rfl, rfl⟩, rfl⟩
      have hle_13 := szSlotF_le (s.getD j o0).t l1 (by omega)
      refine JL.pure rfl (PO.assign (v := .int .i64 (szSlotF (s.getD j o0).t l1)) rfl) ?_
      refine JL.nil ?_
      refine JQ.seq ?_
      refine JC.seq ?_
      refine JC.region ?_
      refine JL.pure rfl (PO.move (v := .int .i64 (szSlotF (s.getD j o0).t l1)) rfl) ?_
      refine JL.pure rfl (PO.lss rfl rfl) ?_
      refine JL.nil ?_
      refine JQ.seq ?_
      by_cases h_14 : (szSlotF (s.getD j o0).t l1) < 0
      · skip
        have hneg := h_14
        refine JC.condT (congrArg Value.bool (decide_eq_true h_14)) ?_
        refine JC.seq ?_
        refine JC.region ?_
        refine JL.pure rfl (PO.assign (v := .int .i64 (-1)) rfl) ?_
        refine JL.nil ?_
        refine JQ.seq ?_
        refine JC.ret ?_
        refine JQ.blockRet ?_
        refine JQ.thenRet ?_
        refine JQ.thenRet ?_
        refine JQ.blockRet ?_
        refine JQ.thenRet ?_
        refine Done.one (.inl rfl) rfl (RV.tmp (v := .int .i64 (-1)) rfl) (List.nil_sublist _) ?_
        refine ⟨?_, rfl⟩
        rw [szL_stepM o0 hlt, if_pos hneg] at hR
        rw [← hR]
      · skip
        have hneg := h_14
        refine JC.condF (congrArg Value.bool (decide_eq_false h_14)) ?_
        refine JC.skip ?_
        refine JQ.blockN ?_
        refine JQ.seq ?_
        refine JC.region ?_
        refine JL.pure rfl (PO.move (v := .int .i64 ((j : Nat) : Int)) he_7) ?_
        refine JL.pure rfl (PO.add (c := ((j + 1 : Nat) : Int)) rfl rfl (wr (by omega))) ?_
        refine JL.pure rfl (PO.assign (v := .int .i64 ((j + 1 : Nat) : Int)) rfl) ?_
        refine JL.nil ?_
        refine JQ.again (s.length - (j + 1)) (by omega) ⟨j + 1, szSlotF (s.getD j o0).t l1, by omega, by omega, by omega, (by rw [szL_stepM o0 hlt, if_neg hneg] at hR; exact hR), he_5, rfl, rfl, rfl, rfl⟩
    · skip
      refine JC.condF (congrArg Value.bool (decide_eq_false h_8)) ?_
      refine JC.exit ?_
      refine JQ.thenExit ?_
      refine JQ.thenExit ?_
      refine JQ.blockE ?_
      refine JQ.seq ?_
      refine JC.seq ?_
      refine JC.region ?_
      refine JL.pure rfl (PO.move (v := .int .i64 l1) he_6) ?_
      refine JL.pure rfl (PO.assign (v := .int .i64 l1) rfl) ?_
      refine JL.nil ?_
      refine JQ.seq ?_
      refine JC.ret ?_
      refine Done.one (.inl rfl) rfl (RV.tmp (v := .int .i64 l1) rfl) (List.nil_sublist _) ?_
      refine ⟨?_, rfl⟩
      rw [List.drop_of_length_le (by rw [List.length_map]; omega)] at hR
      rw [← hR]
      rfl

theorem C_toSlotS (a : Option Addr) (c : Nat) (s : List OX) (hn : s.length ≤ 1048576) (hl : ∀ q ∈ s, q.t.lim 1048576) :
    Ct Tryz.prog 60 [.slice a s.length c] [] (fun w => SeesAE w (rdsOS a c s)) (fun r A' => ∃ a' c' y, y.map OX.t = s.map OX.t ∧ r = .slice a' y.length c' ∧ A' = [.rows (rdsOS a' c' y)]) := by
  refine Ct.intro Tryz.func60 rfl Tryz.ntmps60 (Nat.le_of_ble_eq_true rfl) fun w0 hpre => ?_
  have hs_1 : SeesE w0 (.slice a s.length c) 3 s.length (s.flatMap encO) := (hpre).head
  have hi_2 : SeesAE w0 (s.flatMap rdsO) := (hpre).tail
  refine JC.seq ?_
  refine JC.region ?_
  refine JL.pure rfl (PO.assign (v := .slice none 0 0) rfl) ?_
  refine JL.nil ?_
  refine JQ.seq ?_
  refine JC.seq ?_
  refine JC.region ?_
  refine JL.pure rfl (PO.move (v := .slice a s.length c) rfl) ?_
  refine JL.pure rfl (PO.lenV Tryz.underlying22 rfl) ?_
  refine JL.op rfl (JO.makeSlice (z := .agg #[.int .i64 0, .slice none 0 0, .bool false]) (zc := [.int .i64 0, .slice none 0 0, .bool false]) (m := s.length) Tryz.underlying28 Tryz.typeInfo60 rfl rfl rfl rfl rfl (by unfold maxLen; omega) (by show 40 * _ ≤ _; omega)) ?_
  rintro _ _ ⟨a_3, rfl, rfl⟩
  refine JL.pure rfl (PO.assign (v := .slice a_3 s.length s.length) rfl) ?_
  refine JL.nil ?_
  refine JQ.seq ?_
  refine JC.seq ?_
  refine JC.seq ?_
  refine JC.region ?_
  refine JL.pure rfl (PO.assign (v := .int .i64 0) rfl) ?_
  refine JL.nil ?_
  refine JQ.seq ?_
  refine JC.block ?_
  refine JC.ghost (L' := [Res.row (.slice a_3 s.length s.length) 60 3 s.length ((List.replicate s.length o0).flatMap encO), Res.rows (([] : List OX).flatMap rdsO)]) (fun w hw => St.rowsNil' (hw.eqL (by rw [flatO]; rfl))) ?_
  refine JC.loop (fun k_ e_ L_ => ∃ j : Nat, ∃ y : List OX, (j ≤ s.length) ∧ (y.map OX.t = (s.take j).map OX.t) ∧ e_ 0 = .slice a s.length c ∧ e_ 2 = .slice none 0 0 ∧ e_ 3 = .slice a_3 s.length s.length ∧ e_ 4 = .int .i64 ((j : Nat) : Int) ∧ L_ = [Res.row (.slice a_3 s.length s.length) 60 3 s.length ((y ++ List.replicate (s.length - j) o0).flatMap encO), Res.rows (y.flatMap rdsO)] ∧ k_ = s.length - j) _ ⟨0, ([] : List OX), by omega, rfl, rfl, rfl, rfl, rfl, rfl, rfl⟩ ?_
  rintro _ e_4 _ ⟨j, y, hj, hd, he_5, he_6, he_7, he_8, rfl, rfl⟩
  refine JC.seq ?_
  refine JC.seq ?_
  refine JC.region ?_
  refine JL.pure rfl (PO.move (v := .int .i64 ((j : Nat) : Int)) he_8) ?_
  refine JL.pure rfl (PO.move (v := .slice a s.length c) he_5) ?_
  refine JL.pure rfl (PO.lenV Tryz.underlying22 rfl) ?_
  refine JL.pure rfl (PO.lss rfl rfl) ?_
  refine JL.nil ?_
  refine JQ.seq ?_
  by_cases h_9 : ((j : Nat) : Int) < ((s.length : Nat) : Int)
  · skip
    have hlt : j < s.length := by omega
    have hf_10 := SeesE.full hs_1 (by omega)
    refine JC.condT (congrArg Value.bool (decide_eq_true h_9)) ?_
    refine JC.skip ?_
    refine JQ.seq ?_
    refine JC.seq ?_
    refine JC.block ?_
    refine JC.region ?_
    refine JL.pure rfl (PO.move (v := .slice a_3 s.length s.length) he_7) ?_
    refine JL.pure rfl (PO.move (v := .int .i64 ((j : Nat) : Int)) he_8) ?_
    refine JL.pure rfl (PO.move (v := .slice a s.length c) he_5) ?_
    refine JL.pure rfl (PO.move (v := .int .i64 ((j : Nat) : Int)) he_8) ?_
    obtain ⟨hr_11, hr_11b, -⟩ := sees_some hf_10 (by omega)
    refine JL.pure rfl (PO.indexAddrV (i := j) Tryz.underlying22 Tryz.sizeOf118 hr_11 hr_11b rfl rfl (by omega)) ?_
    have hi_12 := SeesAE.elem hi_2 o0 (show j < s.length by omega)
    have hs_13 := seesOE hi_12
    refine JL.ld rfl (LO.loadSK (vs := [.int .i64 ((s.getD j o0).t.seq), .slice ((s.getD j o0).x.a0) ((s.getD j o0).t.cells.length) ((s.getD j o0).x.c0), .bool ((s.getD j o0).t.whole)]) hf_10 (fun _ _ => List.not_mem_nil) rfl Tryz.isAgg118 Tryz.sizeOf118 (flat_take encO_len o0 s j (by omega)) rfl (by decide)) ?_
    refine JL.op rfl (JO.call [] Tryz.call108 rfl (C_toSlot (s.getD j o0) (hl _ (getD_mem hlt))) rfl (fun w hw => hw.seeOutAE hi_12 nMA)) ?_
    rintro _ _ ⟨_, ⟨y_14, hy_15, rfl, rfl⟩, rfl⟩
    refine JL.facts fun hst => ?_
    obtain ⟨hr_16, hr_16b, -⟩ := row_some 1 rfl (by omega) hst
    refine JL.pure rfl (PO.indexAddrV (i := j) Tryz.underlying28 Tryz.sizeOf60 hr_16 hr_16b rfl rfl (by omega)) ?_
    refine JL.op rfl (JO.storeR 1 (vs := [.int .i64 y_14.t.seq, .slice y_14.x.a0 y_14.t.cells.length y_14.x.c0, .bool y_14.t.whole]) (cs' := ((y ++ List.replicate (s.length - j) o0).set j y_14).flatMap encO) rfl rfl rfl rfl Tryz.sizeOf60 rfl rfl (by decide) (by rw [flat_length encO_len]; rw [List.length_append, List.length_replicate, map_len hd hj]; omega) (flat_set encO_len (y ++ List.replicate (s.length - j) o0) j y_14 (by rw [List.length_append, List.length_replicate, map_len hd hj]; omega))) ?_
    rintro _ _ rfl
    refine JL.nil ?_
    refine JQ.blockN ?_
    refine JQ.seq ?_
    refine JC.region ?_
    refine JL.pure rfl (PO.move (v := .int .i64 ((j : Nat) : Int)) he_8) ?_
    refine JL.pure rfl (PO.add (c := ((j + 1 : Nat) : Int)) rfl rfl (wr (by omega))) ?_
    refine JL.pure rfl (PO.assign (v := .int .i64 ((j + 1 : Nat) : Int)) rfl) ?_
    refine JL.nil ?_
    refine JQ.ghost (L' := [Res.rows ((y ++ [y_14]).flatMap rdsO), Res.row (.slice a_3 s.length s.length) 60 3 s.length (((y ++ List.replicate (s.length - j) o0).set j y_14).flatMap encO)]) (fun w hw => hw.addR [2, 0] rfl flatMap_snoc) ?_
    refine JQ.ghost (L' := [Res.rows ((y ++ [y_14]).flatMap rdsO), Res.row (.slice a_3 s.length s.length) 60 3 s.length (((y ++ [y_14]) ++ List.replicate (s.length - (j + 1)) o0).flatMap encO)]) (fun w hw => hw.eqL (by rw [fillV_step (map_len hd hj) hlt])) ?_
    refine JQ.pick [1, 0] (A := [Res.row (.slice a_3 s.length s.length) 60 3 s.length (((y ++ [y_14]) ++ List.replicate (s.length - (j + 1)) o0).flatMap encO), Res.rows ((y ++ [y_14]).flatMap rdsO)]) rfl ?_
    refine JQ.again (s.length - (j + 1)) (by omega) ⟨j + 1, (y ++ [y_14]), by omega, (map_take_succ o0 hd hlt hy_15), he_5, he_6, he_7, rfl, rfl, rfl⟩
  · skip
    refine JC.condF (congrArg Value.bool (decide_eq_false h_9)) ?_
    refine JC.exit ?_
    refine JQ.thenExit ?_
    refine JQ.thenExit ?_
    refine JQ.blockE ?_
    refine JQ.seq ?_
    refine JC.seq ?_
    refine JC.region ?_
    refine JL.pure rfl (PO.move (v := .slice a_3 s.length s.length) he_7) ?_
    refine JL.pure rfl (PO.assign (v := .slice a_3 s.length s.length) rfl) ?_
    refine JL.nil ?_
    refine JQ.seq ?_
    refine JC.ret ?_
    have hly := map_len hd hj
    obtain rfl : j = s.length := by omega
    refine JQ.ghost (L' := [Res.row (.slice a_3 y.length s.length) 60 3 y.length (y.flatMap encO), Res.rows (y.flatMap rdsO)]) (fun w hw => hw.eqL (by simp only [Nat.sub_self, List.replicate_zero, List.append_nil, hly])) ?_
    refine JQ.ghost (L' := [Res.rows (rdsOS a_3 s.length y)]) (fun w hw => hw.consR (r := ⟨.slice a_3 y.length s.length, 60, 3, y.length, y.flatMap encO⟩) (A := y.flatMap rdsO) [0, 0] rfl) ?_
    refine Done.one (.inl rfl) rfl (RV.tmp (v := .slice a_3 s.length s.length) rfl) (List.Sublist.refl _) ?_
    exact ⟨a_3, s.length, y, map_all hd (Nat.le_refl _), by rw [hly], rfl⟩

theorem C_eqSlotS (a b : Option Addr) (c c' : Nat) (s t : List OX) (hn : s.length ≤ 9223372036854775807) (hl : ∀ q ∈ s, q.t.lim 1000000000) :
    Ct Tryz.prog 65 [.slice a s.length c, .slice b t.length c'] [] (fun w => SeesA w (rdsOS a c s) ∧ SeesA w (rdsOS b c' t)) (fun r A' => r = .bool (decide (s.map OX.t = t.map OX.t)) ∧ A' = []) := by
  refine Ct.intro Tryz.func65 rfl Tryz.ntmps65 (Nat.le_of_ble_eq_true rfl) fun w0 hpre => ?_
  have hs_1 : Sees w0 (.slice a s.length c) 3 s.length (s.flatMap encO) := (hpre.1).head
  have hi_2 : SeesA w0 (s.flatMap rdsO) := (hpre.1).tail
  have hs_3 : Sees w0 (.slice b t.length c') 3 t.length (t.flatMap encO) := (hpre.2).head
  have hi_4 : SeesA w0 (t.flatMap rdsO) := (hpre.2).tail
  refine JC.seq ?_
  refine JC.region ?_
  refine JL.pure rfl (PO.assign (v := .bool false) rfl) ?_
  refine JL.nil ?_
  refine JQ.seq ?_
  refine JC.seq ?_
  refine JC.seq ?_
  refine JC.region ?_
  refine JL.pure rfl (PO.move (v := .slice a s.length c) rfl) ?_
  refine JL.pure rfl (PO.lenV Tryz.underlying28 rfl) ?_
  refine JL.pure rfl (PO.move (v := .slice b t.length c') rfl) ?_
  refine JL.pure rfl (PO.lenV Tryz.underlying28 rfl) ?_
  refine JL.pure rfl (PO.neqI rfl rfl) ?_
  refine JL.nil ?_
  refine JQ.seq ?_
  by_cases h_5 : ((s.length : Nat) : Int) = ((t.length : Nat) : Int)
  · skip
    have hlen := h_5
    refine JC.condF (congrArg Value.bool (congrArg Bool.not (decide_eq_true h_5))) ?_
    refine JC.skip ?_
    refine JQ.seq ?_
    refine JC.seq ?_
    refine JC.seq ?_
    refine JC.region ?_
    refine JL.pure rfl (PO.assign (v := .int .i64 0) rfl) ?_
    refine JL.nil ?_
    refine JQ.seq ?_
    refine JC.block ?_
    refine JC.loop (fun k_ e_ L_ => ∃ j : Nat, (j ≤ s.length) ∧ ((s.take j).map OX.t = (t.take j).map OX.t) ∧ (s.length = t.length) ∧ e_ 0 = .slice a s.length c ∧ e_ 1 = .slice b t.length c' ∧ e_ 5 = .int .i64 ((j : Nat) : Int) ∧ L_ = [] ∧ k_ = s.length - j) _ ⟨0, by omega, rfl, by omega, rfl, rfl, rfl, rfl, rfl⟩ ?_
    rintro _ e_6 _ ⟨j, hj, hE, hln, he_7, he_8, he_9, rfl, rfl⟩
    refine JC.seq ?_
    refine JC.seq ?_
    refine JC.region ?_
    refine JL.pure rfl (PO.move (v := .int .i64 ((j : Nat) : Int)) he_9) ?_
    refine JL.pure rfl (PO.move (v := .slice a s.length c) he_7) ?_
    refine JL.pure rfl (PO.lenV Tryz.underlying28 rfl) ?_
    refine JL.pure rfl (PO.lss rfl rfl) ?_
    refine JL.nil ?_
    refine JQ.seq ?_
    by_cases h_10 : ((j : Nat) : Int) < ((s.length : Nat) : Int)
    · skip
      have hlt : j < s.length := by omega
      refine JC.condT (congrArg Value.bool (decide_eq_true h_10)) ?_
      refine JC.skip ?_
      refine JQ.seq ?_
      refine JC.seq ?_
      refine JC.block ?_
      refine JC.seq ?_
      refine JC.regionA [] 1000 mixed (by simp) ?_
      refine JA.takeP 0 rfl (by kernel_rfl) (NP.th (NP.bl (NP.th (NP.th (NP.bl (NP.th NP.body)))))) (by kernel_rfl) (by kernel_rfl) rfl (PO.move (v := .slice a s.length c) he_7) ?_
      refine JA.takeP 1 rfl (by kernel_rfl) (NP.th (NP.bl (NP.th (NP.th (NP.bl (NP.th NP.body)))))) (by kernel_rfl) (by kernel_rfl) rfl (PO.move (v := .int .i64 ((j : Nat) : Int)) he_9) ?_
      obtain ⟨hr_11, hr_11b, -⟩ := sees_some hs_1 (by omega)
      refine JA.takeP 2 rfl (by kernel_rfl) (NP.th (NP.bl (NP.th (NP.th (NP.bl (NP.th NP.body)))))) (by kernel_rfl) (by kernel_rfl) rfl (PO.indexAddrV (i := j) Tryz.underlying28 Tryz.sizeOf60 hr_11 hr_11b rfl rfl (by omega)) ?_
      have hi_12 := SeesA.elem hi_2 o0 (show j < s.length by omega)
      have hs_13 := seesO hi_12
      refine JA.take 3 rfl (by kernel_rfl) (NP.th (NP.bl (NP.th (NP.th (NP.bl (NP.th NP.body)))))) (by kernel_rfl) (by kernel_rfl) (by kernel_rfl) rfl (LO.loadSK (vs := [.int .i64 ((s.getD j o0).t.seq), .slice ((s.getD j o0).x.a0) ((s.getD j o0).t.cells.length) ((s.getD j o0).x.c0), .bool ((s.getD j o0).t.whole)]) hs_1 (fun _ _ => List.not_mem_nil) rfl Tryz.isAgg60 Tryz.sizeOf60 (flat_take encO_len o0 s j (by omega)) rfl (by decide)) ?_
      refine JA.takeP 4 rfl (by kernel_rfl) (NP.th (NP.bl (NP.th (NP.th (NP.bl (NP.th NP.body)))))) (by kernel_rfl) (by kernel_rfl) rfl (PO.move (v := .slice b t.length c') he_8) ?_
      refine JA.takeP 5 rfl (by kernel_rfl) (NP.th (NP.bl (NP.th (NP.th (NP.bl (NP.th NP.body)))))) (by kernel_rfl) (by kernel_rfl) rfl (PO.move (v := .int .i64 ((j : Nat) : Int)) he_9) ?_
      obtain ⟨hr_14, hr_14b, -⟩ := sees_some hs_3 (by omega)
      refine JA.takeP 6 rfl (by kernel_rfl) (NP.th (NP.bl (NP.th (NP.th (NP.bl (NP.th NP.body)))))) (by kernel_rfl) (by kernel_rfl) rfl (PO.indexAddrV (i := j) Tryz.underlying28 Tryz.sizeOf60 hr_14 hr_14b rfl rfl (by omega)) ?_
      have hi_15 := SeesA.elem hi_4 o0 (show j < t.length by omega)
      have hs_16 := seesO hi_15
      refine JA.take 7 rfl (by kernel_rfl) (NP.th (NP.bl (NP.th (NP.th (NP.bl (NP.th NP.body)))))) (by kernel_rfl) (by kernel_rfl) (by kernel_rfl) rfl (LO.loadSK (vs := [.int .i64 ((t.getD j o0).t.seq), .slice ((t.getD j o0).x.a0) ((t.getD j o0).t.cells.length) ((t.getD j o0).x.c0), .bool ((t.getD j o0).t.whole)]) hs_3 (fun _ _ => List.not_mem_nil) rfl Tryz.isAgg60 Tryz.sizeOf60 (flat_take encO_len o0 t j (by omega)) rfl (by decide)) ?_
      refine JA.one (i := 8) (by kernel_rfl) ?_
      refine JX.op rfl rfl (JO.call [] Tryz.call116 rfl (C_eqSlot (s.getD j o0) (t.getD j o0) (hl _ (getD_mem hlt))) rfl (fun w hw => ⟨hw.seeOutA hi_12 nMA, hw.seeOutA hi_15 nMA⟩)) ?_
      rintro _ _ ⟨_, ⟨rfl, rfl⟩, rfl⟩
      refine ⟨(fun _ h => by cases h), ?_⟩
      refine JA.takeP 9 rfl (by kernel_rfl) (NP.th (NP.bl (NP.th (NP.th (NP.bl (NP.th NP.body)))))) (by kernel_rfl) (by kernel_rfl) rfl (PO.not rfl) ?_
      refine JA.done (by kernel_rfl) ?_
      refine JQ.seq ?_
      by_cases h_17 : (s.getD j o0).t = (t.getD j o0).t
      · skip
        have heq := h_17
        refine JC.condF (congrArg Value.bool (congrArg Bool.not (decide_eq_true h_17))) ?_
        refine JC.skip ?_
        refine JQ.blockN ?_
        refine JQ.seq ?_
        refine JC.region ?_
        refine JL.pure rfl (PO.move (v := .int .i64 ((j : Nat) : Int)) he_9) ?_
        refine JL.pure rfl (PO.add (c := ((j + 1 : Nat) : Int)) rfl rfl (wr (by omega))) ?_
        refine JL.pure rfl (PO.assign (v := .int .i64 ((j + 1 : Nat) : Int)) rfl) ?_
        refine JL.nil ?_
        refine JQ.again (s.length - (j + 1)) (by omega) ⟨j + 1, by omega, take_succM_eq o0 hE hlt hln heq, hln, he_7, he_8, rfl, rfl, rfl⟩
      · skip
        have hne := h_17
        refine JC.condT (congrArg Value.bool (congrArg Bool.not (decide_eq_false h_17))) ?_
        refine JC.seq ?_
        refine JC.region ?_
        refine JL.pure rfl (PO.assign (v := .bool false) rfl) ?_
        refine JL.nil ?_
        refine JQ.seq ?_
        refine JC.ret ?_
        refine JQ.blockRet ?_
        refine JQ.thenRet ?_
        refine JQ.thenRet ?_
        refine JQ.blockRet ?_
        refine JQ.thenRet ?_
        refine Done.one (.inl rfl) rfl (RV.tmp (v := .bool false) rfl) (List.nil_sublist _) ?_
        refine ⟨?_, rfl⟩
        rw [decide_eq_false (fun h => hne (getM_eq o0 h hlt hln))]
    · skip
      refine JC.condF (congrArg Value.bool (decide_eq_false h_10)) ?_
      refine JC.exit ?_
      refine JQ.thenExit ?_
      refine JQ.thenExit ?_
      refine JQ.blockE ?_
      refine JQ.seq ?_
      refine JC.seq ?_
      refine JC.region ?_
      refine JL.pure rfl (PO.assign (v := .bool true) rfl) ?_
      refine JL.nil ?_
      refine JQ.seq ?_
      refine JC.ret ?_
      refine Done.one (.inl rfl) rfl (RV.tmp (v := .bool true) rfl) (List.nil_sublist _) ?_
      refine ⟨?_, rfl⟩
      rw [decide_eq_true (take_allM_eq hE (by omega) (by omega))]
  · skip
    have hlen := h_5
    refine JC.condT (congrArg Value.bool (congrArg Bool.not (decide_eq_false h_5))) ?_
    refine JC.seq ?_
    refine JC.region ?_
    refine JL.pure rfl (PO.assign (v := .bool false) rfl) ?_
    refine JL.nil ?_
    refine JQ.seq ?_
    refine JC.ret ?_
    refine JQ.thenRet ?_
    refine Done.one (.inl rfl) rfl (RV.tmp (v := .bool false) rfl) (List.nil_sublist _) ?_
    refine ⟨?_, rfl⟩
    rw [decide_eq_false (fun h => by have h2 := congrArg List.length h; rw [List.length_map, List.length_map] at h2; omega)]

set_option maxRecDepth 4000 in
set_option maxHeartbeats 1000000 in
theorem C_markSlotS (a : Option Addr) (c : Nat) (l : List OX) (k : Nat) (h0 : 0 < k) (h1 : k + cntV cntO l ≤ 100000000) (hn : l.length ≤ 1000000000) :
    Ct Tryz.prog 67 [.slice a l.length c, .int .i64 ((k : Nat) : Int)] [Res.rows (rdsOS a c l)] (fun _ => True) (fun v A' => v = .int .i64 ((k + cntV cntO l : Nat) : Int) ∧ A' = [.rows (rdsOS a c (markV mkO cntO l k))]) := by
  refine Ct.intro Tryz.func67 rfl Tryz.ntmps67 (Nat.le_of_ble_eq_true rfl) fun w0 hpre => ?_
  refine JC.ghost (L' := [Res.row (.slice a l.length c) 60 3 l.length (l.flatMap encO), Res.rows (l.flatMap rdsO)]) (fun w hw => hw.headR (r := ⟨.slice a l.length c, 60, 3, l.length, l.flatMap encO⟩) (A := l.flatMap rdsO) 0 rfl) ?_
  refine JC.seq ?_
  refine JC.region ?_
  refine JL.pure rfl (PO.assign (v := .int .i64 0) rfl) ?_
  refine JL.nil ?_
  refine JQ.seq ?_
  refine JC.seq ?_
  refine JC.seq ?_
  refine JC.region ?_
  refine JL.pure rfl (PO.assign (v := .int .i64 0) rfl) ?_
  refine JL.nil ?_
  refine JQ.seq ?_
  refine JC.block ?_
  refine JC.loop (fun k_ e_ L_ => ∃ j : Nat, ∃ kk : Nat, ∃ Q : List OX, (j ≤ l.length) ∧ (kk = k + cntV cntO (l.take j)) ∧ (Q = (markV mkO cntO l k).take j) ∧ (Q.length = j) ∧ e_ 0 = .slice a l.length c ∧ e_ 1 = .int .i64 ((kk : Nat) : Int) ∧ e_ 4 = .int .i64 0 ∧ e_ 5 = .int .i64 ((j : Nat) : Int) ∧ L_ = [Res.row (.slice a l.length c) 60 3 l.length ((Q ++ l.drop j).flatMap encO), Res.rows ((Q ++ l.drop j).flatMap rdsO)] ∧ k_ = l.length - j) _ ⟨0, k, [], by omega, rfl, rfl, rfl, rfl, rfl, rfl, rfl, rfl, rfl⟩ ?_
  rintro _ e_1 _ ⟨j, kk, Q, hj, hkk, hQ, hQl, he_2, he_3, he_4, he_5, rfl, rfl⟩
  refine JC.seq ?_
  refine JC.seq ?_
  refine JC.region ?_
  refine JL.pure rfl (PO.move (v := .int .i64 ((j : Nat) : Int)) he_5) ?_
  refine JL.pure rfl (PO.move (v := .slice a l.length c) he_2) ?_
  refine JL.pure rfl (PO.lenV Tryz.underlying28 rfl) ?_
  refine JL.pure rfl (PO.lss rfl rfl) ?_
  refine JL.nil ?_
  refine JQ.seq ?_
  by_cases h_6 : ((j : Nat) : Int) < ((l.length : Nat) : Int)
  · skip
    have hlt : j < l.length := by omega
    have hb : cntV cntO (l.take j) + cntO (l.getD j o0) ≤ cntV cntO l := cntV_le o0 hlt
    simp only [cntO] at hb
    refine JC.ghost (L' := [Res.row (.slice ((l.getD j o0).x.a0) ((l.getD j o0).t.cells.length) ((l.getD j o0).x.c0)) 48 2 (((l.getD j o0).t.cells).length) (((l.getD j o0).t.cells).flatMap encC), Res.rows (Q.flatMap rdsO), Res.rows ((l.drop (j + 1)).flatMap rdsO), Res.row (.slice a l.length c) 60 3 l.length (mid encO Q [.int .i64 ((l.getD j o0).t.seq), .slice ((l.getD j o0).x.a0) ((l.getD j o0).t.cells.length) ((l.getD j o0).x.c0), .bool ((l.getD j o0).t.whole)] (l.drop (j + 1)))]) (fun w hw => St.openR 1 rfl (St.splitR 1 rfl (flatMap_mid o0 hlt) (hw.midR 0 rfl o0 hlt))) ?_
    refine JC.condT (congrArg Value.bool (decide_eq_true h_6)) ?_
    refine JC.skip ?_
    refine JQ.seq ?_
    refine JC.seq ?_
    refine JC.block ?_
    refine JC.seq ?_
    refine JC.region ?_
    refine JL.pure rfl (PO.move (v := .slice a l.length c) he_2) ?_
    refine JL.pure rfl (PO.move (v := .int .i64 ((j : Nat) : Int)) he_5) ?_
    refine JL.pure rfl (PO.move (v := .int .i64 ((kk : Nat) : Int)) he_3) ?_
    refine JL.facts fun hst => ?_
    obtain ⟨hr_7, hr_7b, -⟩ := row_some 3 rfl (by omega) hst
    refine JL.pure rfl (PO.indexAddrV (i := j) Tryz.underlying28 Tryz.sizeOf60 hr_7 hr_7b rfl rfl (by omega)) ?_
    refine JL.pure rfl (PO.fieldAddrE fo60_0 hr_7 rfl) ?_
    refine JL.op rfl (JO.storeR 3 (vs := [.int .i64 ((kk : Nat) : Int)]) (cs' := mid encO Q [.int .i64 ((kk : Nat) : Int), .slice ((l.getD j o0).x.a0) ((l.getD j o0).t.cells.length) ((l.getD j o0).x.c0), .bool ((l.getD j o0).t.whole)] (l.drop (j + 1))) rfl rfl rfl rfl Tryz.sizeOf3 rfl rfl (by decide) (mid_fit encO_len rfl hQl (f := 0) (lb rfl)) (mid_set encO_len rfl hQl 0 [.int .i64 ((kk : Nat) : Int)] (lb rfl))) ?_
    rintro _ _ rfl
    refine JL.nil ?_
    refine JQ.seq ?_
    refine JC.seq ?_
    refine JC.region ?_
    refine JL.pure rfl (PO.move (v := .int .i64 ((kk : Nat) : Int)) he_3) ?_
    refine JL.pure rfl (PO.add (c := ((kk + 1 : Nat) : Int)) rfl rfl (wr (by omega))) ?_
    refine JL.pure rfl (PO.assign (v := .int .i64 ((kk + 1 : Nat) : Int)) rfl) ?_
    refine JL.nil ?_
    refine JQ.seq ?_
    refine JC.seq ?_
    refine JC.region ?_
    refine JL.pure rfl (PO.move (v := .slice a l.length c) he_2) ?_
    refine JL.pure rfl (PO.move (v := .int .i64 ((j : Nat) : Int)) he_5) ?_
    refine JL.pure rfl (PO.indexAddrV (i := j) Tryz.underlying28 Tryz.sizeOf60 hr_7 hr_7b rfl rfl (by omega)) ?_
    refine JL.pure rfl (PO.fieldAddrE fo60_1 hr_7 rfl) ?_
    refine JL.ld rfl (LO.loadR1 3 (v := .slice ((l.getD j o0).x.a0) ((l.getD j o0).t.cells.length) ((l.getD j o0).x.c0)) rfl rfl Tryz.isAgg49 (mid_at encO_len rfl hQl 1 (by decide))) ?_
    refine JL.pure rfl (PO.move (v := .int .i64 ((kk + 1 : Nat) : Int)) rfl) ?_
    refine JL.op rfl (JO.call [0] Tryz.call117 rfl (C_markCellS (l.getD j o0).x.a0 ((l.getD j o0).x.c0) ((l.getD j o0).t.cells) (kk + 1) (by omega) (by omega)) rfl (fun _ _ => trivial)) ?_
    rintro _ _ ⟨_, ⟨rfl, rfl⟩, rfl⟩
    refine JL.pure rfl (PO.assign (v := .int .i64 ((kk + 1 + 2 * ((l.getD j o0).t.cells).length : Nat) : Int)) rfl) ?_
    refine JL.nil ?_
    refine JQ.seq ?_
    refine JC.seq ?_
    refine JC.region ?_
    refine JL.pure rfl (PO.move (v := .slice a l.length c) he_2) ?_
    refine JL.pure rfl (PO.move (v := .int .i64 ((j : Nat) : Int)) he_5) ?_
    refine JL.pure rfl (PO.move (v := .int .i64 ((kk + 1 + 2 * ((l.getD j o0).t.cells).length : Nat) : Int)) rfl) ?_
    refine JL.pure rfl (PO.remN (c := (((kk + 1 + 2 * ((l.getD j o0).t.cells).length) % 3 : Nat) : Int)) rfl rfl (by omega) (by omega) (by omega)) ?_
    refine JL.pure rfl (PO.eqlI rfl rfl) ?_
    refine JL.pure rfl (PO.indexAddrV (i := j) Tryz.underlying28 Tryz.sizeOf60 hr_7 hr_7b rfl rfl (by omega)) ?_
    refine JL.pure rfl (PO.fieldAddrE fo60_2 hr_7 rfl) ?_
    refine JL.op rfl (JO.storeR 3 (vs := [.bool (decide ((((kk + 1 + 2 * ((l.getD j o0).t.cells).length) % 3 : Nat) : Int) = 0))]) (cs' := mid encO Q [.int .i64 ((kk : Nat) : Int), .slice ((l.getD j o0).x.a0) ((l.getD j o0).t.cells.length) ((l.getD j o0).x.c0), .bool (decide ((((kk + 1 + 2 * ((l.getD j o0).t.cells).length) % 3 : Nat) : Int) = 0))] (l.drop (j + 1))) rfl rfl rfl rfl Tryz.sizeOf4 rfl rfl (by decide) (mid_fit encO_len rfl hQl (f := 2) (lb rfl)) (mid_set encO_len rfl hQl 2 [.bool (decide ((((kk + 1 + 2 * ((l.getD j o0).t.cells).length) % 3 : Nat) : Int) = 0))] (lb rfl))) ?_
    rintro _ _ rfl
    refine JL.nil ?_
    refine JQ.seq ?_
    refine JC.region ?_
    refine JL.pure rfl (PO.move (v := .int .i64 ((kk + 1 + 2 * ((l.getD j o0).t.cells).length : Nat) : Int)) rfl) ?_
    refine JL.pure rfl (PO.add (c := (((kk + 1 + 2 * ((l.getD j o0).t.cells).length) + 1 : Nat) : Int)) rfl rfl (wr (by omega))) ?_
    refine JL.pure rfl (PO.assign (v := .int .i64 (((kk + 1 + 2 * ((l.getD j o0).t.cells).length) + 1 : Nat) : Int)) rfl) ?_
    refine JL.nil ?_
    refine JQ.blockN ?_
    refine JQ.seq ?_
    refine JC.region ?_
    refine JL.pure rfl (PO.move (v := .int .i64 ((j : Nat) : Int)) he_5) ?_
    refine JL.pure rfl (PO.add (c := ((j + 1 : Nat) : Int)) rfl rfl (wr (by omega))) ?_
    refine JL.pure rfl (PO.assign (v := .int .i64 ((j + 1 : Nat) : Int)) rfl) ?_
    refine JL.nil ?_
    refine JQ.ghost (L' := [Res.rows (((Q ++ [mkO (l.getD j o0) kk]) ++ l.drop (j + 1)).flatMap rdsO), Res.row (.slice a l.length c) 60 3 l.length (((Q ++ [mkO (l.getD j o0) kk]) ++ l.drop (j + 1)).flatMap encO)]) (fun w hw => St.joinR [2, 0, 1] rfl (by rw [flatMap_mid2, rdsO_mk]) (St.closeR (A := ([⟨.slice ((l.getD j o0).x.a0) ((l.getD j o0).t.cells.length) ((l.getD j o0).x.c0), 48, 2, ((l.getD j o0).t.cells).length, (markC ((l.getD j o0).t.cells) (kk + 1)).flatMap encC⟩] : List RD)) [1] rfl (hw.unmid 3 rfl (q := mkO (l.getD j o0) kk) (encO_mk _ _)))) ?_
    refine JQ.pick [1, 0] (A := [Res.row (.slice a l.length c) 60 3 l.length (((Q ++ [mkO (l.getD j o0) kk]) ++ l.drop (j + 1)).flatMap encO), Res.rows (((Q ++ [mkO (l.getD j o0) kk]) ++ l.drop (j + 1)).flatMap rdsO)]) rfl ?_
    refine JQ.again (l.length - (j + 1)) (by omega) ⟨j + 1, (kk + 1 + 2 * ((l.getD j o0).t.cells).length) + 1, (Q ++ [mkO (l.getD j o0) kk]), by omega, (by rw [cntV_step o0 hlt]; simp only [cntO]; omega), (by rw [markV_step o0 hlt, ← hQ, ← hkk]), (by rw [List.length_append, hQl]; rfl), he_2, rfl, he_4, rfl, rfl, rfl⟩
  · skip
    refine JC.condF (congrArg Value.bool (decide_eq_false h_6)) ?_
    refine JC.exit ?_
    refine JQ.thenExit ?_
    refine JQ.thenExit ?_
    refine JQ.blockE ?_
    refine JQ.seq ?_
    refine JC.seq ?_
    refine JC.region ?_
    refine JL.pure rfl (PO.move (v := .int .i64 ((kk : Nat) : Int)) he_3) ?_
    refine JL.pure rfl (PO.assign (v := .int .i64 ((kk : Nat) : Int)) rfl) ?_
    refine JL.nil ?_
    refine JQ.seq ?_
    refine JC.ret ?_
    have hz : Q ++ l.drop j = markV mkO cntO l k := by rw [hQ, List.drop_of_length_le (by omega), List.append_nil, markV_all (by omega)]
    refine JQ.ghost (L' := [Res.row (.slice a ((markV mkO cntO l k).length) c) 60 3 ((markV mkO cntO l k).length) ((markV mkO cntO l k).flatMap encO), Res.rows ((markV mkO cntO l k).flatMap rdsO)]) (fun w hw => hw.eqL (by rw [hz, markV_len])) ?_
    refine JQ.ghost (L' := [Res.rows (rdsOS a c (markV mkO cntO l k))]) (fun w hw => hw.consR (r := ⟨.slice a ((markV mkO cntO l k).length) c, 60, 3, (markV mkO cntO l k).length, (markV mkO cntO l k).flatMap encO⟩) (A := (markV mkO cntO l k).flatMap rdsO) [0, 0] rfl) ?_
    refine Done.one (.inl rfl) rfl (RV.tmp (v := .int .i64 ((kk : Nat) : Int)) rfl) (List.Sublist.refl _) ?_
    exact ⟨by rw [hkk, cntV_all (by omega)], rfl⟩

set_option maxRecDepth 4000 in
set_option maxHeartbeats 1000000 in
theorem C_heldSlotS (a : Option Addr) (c : Nat) (l : List OX) (k : Nat) (h0 : 0 < k) (h1 : k + cntV cntO l ≤ 100000000) (hn : l.length ≤ 1000000000) :
    Ct Tryz.prog 68 [.slice a l.length c, .int .i64 ((k : Nat) : Int)] [] (fun w => SeesA w (rdsOS a c (markV mkO cntO l k))) (fun v A' => v = .int .i64 ((k + cntV cntO l : Nat) : Int) ∧ A' = []) := by
  refine Ct.intro Tryz.func68 rfl Tryz.ntmps68 (Nat.le_of_ble_eq_true rfl) fun w0 hpre => ?_
  have hs : Sees w0 (.slice a l.length c) 3 l.length ((markV mkO cntO l k).flatMap encO) := by have h := hpre.head; simpa only [RD.sees, markV_len] using h
  have hi : SeesA w0 ((markV mkO cntO l k).flatMap rdsO) := hpre.tail
  refine JC.seq ?_
  refine JC.region ?_
  refine JL.pure rfl (PO.assign (v := .int .i64 0) rfl) ?_
  refine JL.nil ?_
  refine JQ.seq ?_
  refine JC.seq ?_
  refine JC.seq ?_
  refine JC.region ?_
  refine JL.pure rfl (PO.assign (v := .int .i64 0) rfl) ?_
  refine JL.nil ?_
  refine JQ.seq ?_
  refine JC.block ?_
  refine JC.loop (fun k_ e_ L_ => ∃ j : Nat, ∃ kk : Nat, (j ≤ l.length) ∧ (kk = k + cntV cntO (l.take j)) ∧ e_ 0 = .slice a l.length c ∧ e_ 1 = .int .i64 ((kk : Nat) : Int) ∧ e_ 5 = .int .i64 ((j : Nat) : Int) ∧ L_ = [] ∧ k_ = l.length - j) _ ⟨0, k, by omega, rfl, rfl, rfl, rfl, rfl, rfl⟩ ?_
  rintro _ e_1 _ ⟨j, kk, hj, hkk, he_2, he_3, he_4, rfl, rfl⟩
  refine JC.seq ?_
  refine JC.seq ?_
  refine JC.region ?_
  refine JL.pure rfl (PO.move (v := .int .i64 ((j : Nat) : Int)) he_4) ?_
  refine JL.pure rfl (PO.move (v := .slice a l.length c) he_2) ?_
  refine JL.pure rfl (PO.lenV Tryz.underlying28 rfl) ?_
  refine JL.pure rfl (PO.lss rfl rfl) ?_
  refine JL.nil ?_
  refine JQ.seq ?_
  by_cases h_5 : ((j : Nat) : Int) < ((l.length : Nat) : Int)
  · skip
    have hlt : j < l.length := by omega
    have hb : cntV cntO (l.take j) + cntO (l.getD j o0) ≤ cntV cntO l := cntV_le o0 hlt
    simp only [cntO] at hb
    have hget : (markV mkO cntO l k).getD j o0 = mkO (l.getD j o0) kk := by rw [markV_get o0 l k j hlt, ← hkk]
    have hin := SeesA.elem hi o0 (show j < (markV mkO cntO l k).length by rw [markV_len]; exact hlt)
    rw [hget] at hin
    have hs_6 := seesO_mk' hin
    refine JC.condT (congrArg Value.bool (decide_eq_true h_5)) ?_
    refine JC.skip ?_
    refine JQ.seq ?_
    refine JC.seq ?_
    refine JC.block ?_
    refine JC.seq ?_
    refine JC.seq ?_
    refine JC.region ?_
    refine JL.pure rfl (PO.move (v := .slice a l.length c) he_2) ?_
    refine JL.pure rfl (PO.move (v := .int .i64 ((j : Nat) : Int)) he_4) ?_
    obtain ⟨hr_7, hr_7b, -⟩ := sees_some hs (by omega)
    refine JL.pure rfl (PO.indexAddrV (i := j) Tryz.underlying28 Tryz.sizeOf60 hr_7 hr_7b rfl rfl (by omega)) ?_
    refine JL.pure rfl (PO.fieldAddrE fo60_0 hr_7 rfl) ?_
    refine JL.ld rfl (LO.loadS1 (v := .int .i64 ((kk : Nat) : Int)) hs (fun _ _ => List.not_mem_nil) rfl Tryz.isAgg3 (flat_atE encO_len o0 (markV mkO cntO l k) j 0 (by rw [markV_len]; exact hlt) (by decide) hget (encO_mk _ _))) ?_
    refine JL.pure rfl (PO.move (v := .int .i64 ((kk : Nat) : Int)) he_3) ?_
    refine JL.pure rfl (PO.neqI rfl rfl) ?_
    refine JL.nil ?_
    refine JQ.seq ?_
    refine JC.condF (congrArg Value.bool (congrArg Bool.not (decide_eq_true rfl))) ?_
    refine JC.skip ?_
    refine JQ.seq ?_
    refine JC.seq ?_
    refine JC.region ?_
    refine JL.pure rfl (PO.move (v := .int .i64 ((kk : Nat) : Int)) he_3) ?_
    refine JL.pure rfl (PO.add (c := ((kk + 1 : Nat) : Int)) rfl rfl (wr (by omega))) ?_
    refine JL.pure rfl (PO.assign (v := .int .i64 ((kk + 1 : Nat) : Int)) rfl) ?_
    refine JL.nil ?_
    refine JQ.seq ?_
    refine JC.seq ?_
    refine JC.region ?_
    refine JL.pure rfl (PO.move (v := .slice a l.length c) he_2) ?_
    refine JL.pure rfl (PO.move (v := .int .i64 ((j : Nat) : Int)) he_4) ?_
    refine JL.pure rfl (PO.indexAddrV (i := j) Tryz.underlying28 Tryz.sizeOf60 hr_7 hr_7b rfl rfl (by omega)) ?_
    refine JL.pure rfl (PO.fieldAddrE fo60_1 hr_7 rfl) ?_
    refine JL.ld rfl (LO.loadS1 (v := .slice ((l.getD j o0).x.a0) ((l.getD j o0).t.cells.length) ((l.getD j o0).x.c0)) hs (fun _ _ => List.not_mem_nil) rfl Tryz.isAgg49 (flat_atE encO_len o0 (markV mkO cntO l k) j 1 (by rw [markV_len]; exact hlt) (by decide) hget (encO_mk _ _))) ?_
    refine JL.pure rfl (PO.move (v := .int .i64 ((kk + 1 : Nat) : Int)) rfl) ?_
    refine JL.op rfl (JO.call [] Tryz.call118 rfl (Y_heldCellS (l.getD j o0).x.a0 ((l.getD j o0).x.c0) ((l.getD j o0).t.cells) (kk + 1) (by omega) (by omega)) rfl (fun w hw => hw.seeOut_ hs_6 (fun _ _ => List.not_mem_nil))) ?_
    rintro _ _ ⟨_, ⟨rfl, rfl⟩, rfl⟩
    refine JL.pure rfl (PO.assign (v := .int .i64 ((kk + 1 + 2 * ((l.getD j o0).t.cells).length : Nat) : Int)) rfl) ?_
    refine JL.nil ?_
    refine JQ.seq ?_
    refine JC.seq ?_
    refine JC.seq ?_
    refine JC.region ?_
    refine JL.pure rfl (PO.move (v := .int .i64 ((kk + 1 + 2 * ((l.getD j o0).t.cells).length : Nat) : Int)) rfl) ?_
    refine JL.pure rfl (PO.lss rfl rfl) ?_
    refine JL.nil ?_
    refine JQ.seq ?_
    by_cases h_8 : ((kk + 1 + 2 * ((l.getD j o0).t.cells).length : Nat) : Int) < 0
    · skip
      refine JC.condT (congrArg Value.bool (decide_eq_true h_8)) ?_
      refine JC.seq ?_
      refine JC.region ?_
      refine JL.pure rfl (PO.assign (v := .int .i64 (-1)) rfl) ?_
      refine JL.nil ?_
      refine JQ.seq ?_
      refine JC.ret ?_
      refine JQ.thenRet ?_
      refine JQ.blockRet ?_
      refine JQ.thenRet ?_
      refine JQ.thenRet ?_
      refine JQ.blockRet ?_
      refine JQ.thenRet ?_
      refine Done.one (.inl rfl) rfl (RV.tmp (v := .int .i64 (-1)) rfl) (List.nil_sublist _) ?_
      exfalso
      omega
    · skip
      refine JC.condF (congrArg Value.bool (decide_eq_false h_8)) ?_
      refine JC.skip ?_
      refine JQ.seq ?_
      refine JC.seq ?_
      refine JC.seq ?_
      refine JC.region ?_
      refine JL.pure rfl (PO.move (v := .slice a l.length c) he_2) ?_
      refine JL.pure rfl (PO.move (v := .int .i64 ((j : Nat) : Int)) he_4) ?_
      refine JL.pure rfl (PO.indexAddrV (i := j) Tryz.underlying28 Tryz.sizeOf60 hr_7 hr_7b rfl rfl (by omega)) ?_
      refine JL.pure rfl (PO.fieldAddrE fo60_2 hr_7 rfl) ?_
      refine JL.ld rfl (LO.loadS1 (v := .bool (decide ((((kk + 1 + 2 * ((l.getD j o0).t.cells).length) % 3 : Nat) : Int) = 0))) hs (fun _ _ => List.not_mem_nil) rfl Tryz.isAgg4 (flat_atE encO_len o0 (markV mkO cntO l k) j 2 (by rw [markV_len]; exact hlt) (by decide) hget (encO_mk _ _))) ?_
      refine JL.pure rfl (PO.move (v := .int .i64 ((kk + 1 + 2 * ((l.getD j o0).t.cells).length : Nat) : Int)) rfl) ?_
      refine JL.pure rfl (PO.remN (c := (((kk + 1 + 2 * ((l.getD j o0).t.cells).length) % 3 : Nat) : Int)) rfl rfl (by omega) (by omega) (by omega)) ?_
      refine JL.pure rfl (PO.eqlI rfl rfl) ?_
      refine JL.pure rfl (PO.neqB Tryz.underlying4 rfl rfl) ?_
      refine JL.nil ?_
      refine JQ.seq ?_
      refine JC.condF (congrArg Value.bool (congrArg Bool.not (decide_eq_true rfl))) ?_
      refine JC.skip ?_
      refine JQ.seq ?_
      refine JC.region ?_
      refine JL.pure rfl (PO.move (v := .int .i64 ((kk + 1 + 2 * ((l.getD j o0).t.cells).length : Nat) : Int)) rfl) ?_
      refine JL.pure rfl (PO.add (c := (((kk + 1 + 2 * ((l.getD j o0).t.cells).length) + 1 : Nat) : Int)) rfl rfl (wr (by omega))) ?_
      refine JL.pure rfl (PO.assign (v := .int .i64 (((kk + 1 + 2 * ((l.getD j o0).t.cells).length) + 1 : Nat) : Int)) rfl) ?_
      refine JL.nil ?_
      refine JQ.blockN ?_
      refine JQ.seq ?_
      refine JC.region ?_
      refine JL.pure rfl (PO.move (v := .int .i64 ((j : Nat) : Int)) he_4) ?_
      refine JL.pure rfl (PO.add (c := ((j + 1 : Nat) : Int)) rfl rfl (wr (by omega))) ?_
      refine JL.pure rfl (PO.assign (v := .int .i64 ((j + 1 : Nat) : Int)) rfl) ?_
      refine JL.nil ?_
      refine JQ.again (l.length - (j + 1)) (by omega) ⟨j + 1, (kk + 1 + 2 * ((l.getD j o0).t.cells).length) + 1, by omega, (by rw [cntV_step o0 hlt]; simp only [cntO]; omega), he_2, rfl, rfl, rfl, rfl⟩
  · skip
    refine JC.condF (congrArg Value.bool (decide_eq_false h_5)) ?_
    refine JC.exit ?_
    refine JQ.thenExit ?_
    refine JQ.thenExit ?_
    refine JQ.blockE ?_
    refine JQ.seq ?_
    refine JC.seq ?_
    refine JC.region ?_
    refine JL.pure rfl (PO.move (v := .int .i64 ((kk : Nat) : Int)) he_3) ?_
    refine JL.pure rfl (PO.assign (v := .int .i64 ((kk : Nat) : Int)) rfl) ?_
    refine JL.nil ?_
    refine JQ.seq ?_
    refine JC.ret ?_
    refine Done.one (.inl rfl) rfl (RV.tmp (v := .int .i64 ((kk : Nat) : Int)) rfl) (List.nil_sublist _) ?_
    exact ⟨by rw [hkk, cntV_all (by omega)], rfl⟩

theorem C_szJournal (t : Str) (s : Int) (l : Int) (h0 : 0 ≤ l) (h1 : l ≤ 1048576) (ht : t.length ≤ 9223372036854775807) :
    Ct Tryz.prog 55 [.agg #[str t, .int .i64 s], .int .i64 l] [] (fun _ => True) (fun r A' => r = .int .i64 (szJournalF t l) ∧ A' = []) := by
  refine Ct.intro Tryz.func55 rfl Tryz.ntmps55 (Nat.le_of_ble_eq_true rfl) fun w0 hpre => ?_
  refine JC.seq ?_
  refine JC.region ?_
  refine JL.op rfl (JO.box (cs := [str t, .int .i64 s]) rfl rfl) ?_
  rintro _ _ ⟨b_1, rfl, rfl⟩
  refine JL.pure rfl (PO.assign (v := .int .i64 0) rfl) ?_
  refine JL.nil ?_
  refine JQ.seq ?_
  refine JC.seq ?_
  refine JC.region ?_
  refine JL.pure rfl (PO.move (v := .int .i64 l) rfl) ?_
  refine JL.pure rfl (PO.fieldAddr fo24_0 rfl) ?_
  refine JL.ld rfl (LO.load1 0 (v := str t) rfl rfl Tryz.isAgg9 rfl) ?_
  refine JL.pure rfl (PO.lenS Tryz.underlying9 rfl) ?_
  refine JL.pure rfl (PO.sub (c := l - (t.length : Int)) rfl rfl (wr (by omega))) ?_
  refine JL.pure rfl (PO.assign (v := .int .i64 (l - (t.length : Int))) rfl) ?_
  refine JL.nil ?_
  refine JQ.seq ?_
  refine JC.seq ?_
  refine JC.seq ?_
  refine JC.region ?_
  refine JL.pure rfl (PO.move (v := .int .i64 (l - (t.length : Int))) rfl) ?_
  refine JL.pure rfl (PO.lss rfl rfl) ?_
  refine JL.nil ?_
  refine JQ.seq ?_
  by_cases h_2 : (l - (t.length : Int)) < 0
  · skip
    refine JC.condT (congrArg Value.bool (decide_eq_true h_2)) ?_
    refine JC.seq ?_
    refine JC.region ?_
    refine JL.pure rfl (PO.assign (v := .int .i64 (-1)) rfl) ?_
    refine JL.nil ?_
    refine JQ.seq ?_
    refine JC.ret ?_
    refine JQ.thenRet ?_
    refine Done.one (.inl rfl) rfl (RV.tmp (v := .int .i64 (-1)) rfl) (List.nil_sublist _) ?_
    refine ⟨congrArg (Value.int .i64) ?_, rfl⟩
    simp only [szJournalF, chk, id_eq]
    (repeat (first | rw [if_pos (by omega)] | rw [if_neg (by omega)]))
  · skip
    refine JC.condF (congrArg Value.bool (decide_eq_false h_2)) ?_
    refine JC.skip ?_
    refine JQ.seq ?_
    refine JC.seq ?_
    refine JC.region ?_
    refine JL.pure rfl (PO.move (v := .int .i64 (l - (t.length : Int))) rfl) ?_
    refine JL.pure rfl (PO.assign (v := .int .i64 (l - (t.length : Int))) rfl) ?_
    refine JL.nil ?_
    refine JQ.seq ?_
    refine JC.ret ?_
    refine Done.one (.inl rfl) rfl (RV.tmp (v := .int .i64 (l - (t.length : Int))) rfl) (List.nil_sublist _) ?_
    refine ⟨congrArg (Value.int .i64) ?_, rfl⟩
    simp only [szJournalF, chk, id_eq]
    (repeat (first | rw [if_pos (by omega)] | rw [if_neg (by omega)]))

theorem C_toJournal (t : Str) (s : Int) :
    Ct Tryz.prog 61 [.agg #[str t, .int .i64 s]] [] (fun _ => True) (fun v A' => v = .agg #[str t, .int .i64 s] ∧ A' = []) := by
  refine Ct.intro Tryz.func61 rfl Tryz.ntmps61 (Nat.le_of_ble_eq_true rfl) fun w0 hpre => ?_
  refine JC.seq ?_
  refine JC.region ?_
  refine JL.op rfl (JO.box (cs := [str t, .int .i64 s]) rfl rfl) ?_
  rintro _ _ ⟨b_1, rfl, rfl⟩
  refine JL.op rfl (JO.alloc (z := .agg #[str [], .int .i64 0]) (cs := [str [], .int .i64 0]) Tryz.zeroValue29 rfl) ?_
  rintro _ _ ⟨b_2, rfl, rfl⟩
  refine JL.nil ?_
  refine JQ.seq ?_
  refine JC.seq ?_
  refine JC.region ?_
  refine JL.op rfl (JO.alloc (z := .agg #[str [], .int .i64 0]) (cs := [str [], .int .i64 0]) Tryz.zeroValue29 rfl) ?_
  rintro _ _ ⟨b_3, rfl, rfl⟩
  refine JL.nil ?_
  refine JQ.seq ?_
  refine JC.seq ?_
  refine JC.region ?_
  refine JL.pure rfl (PO.fieldAddr fo24_0 rfl) ?_
  refine JL.ld rfl (LO.load1 2 (v := str t) rfl rfl Tryz.isAgg9 rfl) ?_
  refine JL.pure rfl (PO.fieldAddr fo29_0 rfl) ?_
  refine JL.op rfl (JO.store 0 (vs := [str t]) (cs' := [str t, .int .i64 0]) rfl rfl rfl rfl Tryz.sizeOf9 rfl rfl (Nat.le_of_ble_eq_true rfl) rfl) ?_
  rintro _ _ rfl
  refine JL.nil ?_
  refine JQ.seq ?_
  refine JC.seq ?_
  refine JC.region ?_
  refine JL.pure rfl (PO.fieldAddr fo24_1 rfl) ?_
  refine JL.ld rfl (LO.load1 2 (v := .int .i64 s) rfl rfl Tryz.isAgg3 rfl) ?_
  refine JL.pure rfl (PO.fieldAddr fo29_1 rfl) ?_
  refine JL.op rfl (JO.store 0 (vs := [.int .i64 s]) (cs' := [str t, .int .i64 s]) rfl rfl rfl rfl Tryz.sizeOf3 rfl rfl (Nat.le_of_ble_eq_true rfl) rfl) ?_
  rintro _ _ rfl
  refine JL.nil ?_
  refine JQ.seq ?_
  refine JC.seq ?_
  refine JC.region ?_
  refine JL.ld rfl (LO.loadK 0 (vs := [str t, .int .i64 s]) rfl rfl Tryz.isAgg29 Tryz.sizeOf29 rfl rfl) ?_
  refine JL.op rfl (JO.store 1 (vs := [str t, .int .i64 s]) (cs' := [str t, .int .i64 s]) rfl rfl rfl rfl Tryz.sizeOf29 rfl rfl (Nat.le_of_ble_eq_true rfl) rfl) ?_
  rintro _ _ rfl
  refine JL.nil ?_
  refine JQ.seq ?_
  refine JC.ret ?_
  refine Done.one (.inl rfl) rfl (RV.cell1 (LO.loadK 1 (vs := [str t, .int .i64 s]) rfl rfl Tryz.isAgg29 Tryz.sizeOf29 rfl rfl) ⟨_, rfl⟩) (List.nil_sublist _) ?_
  exact ⟨rfl, rfl⟩

theorem C_eqJournal (t : Str) (s : Int) (u : Str) (r : Int) :
    Ct Tryz.prog 66 [.agg #[str t, .int .i64 s], .agg #[str u, .int .i64 r]] [] (fun _ => True) (fun v A' => v = .bool (decide (t = u ∧ s = r)) ∧ A' = []) := by
  refine Ct.intro Tryz.func66 rfl Tryz.ntmps66 (Nat.le_of_ble_eq_true rfl) fun w0 hpre => ?_
  refine JC.seq ?_
  refine JC.region ?_
  refine JL.op rfl (JO.box (cs := [str t, .int .i64 s]) rfl rfl) ?_
  rintro _ _ ⟨b_1, rfl, rfl⟩
  refine JL.op rfl (JO.box (cs := [str u, .int .i64 r]) rfl rfl) ?_
  rintro _ _ ⟨b_2, rfl, rfl⟩
  refine JL.pure rfl (PO.assign (v := .bool false) rfl) ?_
  refine JL.nil ?_
  refine JQ.seq ?_
  refine JC.seq ?_
  refine JC.seq ?_
  refine JC.region ?_
  refine JL.pure rfl (PO.fieldAddr fo29_0 rfl) ?_
  refine JL.ld rfl (LO.load1 1 (v := str t) rfl rfl Tryz.isAgg9 rfl) ?_
  refine JL.pure rfl (PO.fieldAddr fo29_0 rfl) ?_
  refine JL.ld rfl (LO.load1 0 (v := str u) rfl rfl Tryz.isAgg9 rfl) ?_
  refine JL.pure rfl (PO.neqS rfl rfl) ?_
  refine JL.nil ?_
  refine JQ.seq ?_
  by_cases h_3 : t = u
  · skip
    refine JC.condF (congrArg Value.bool (congrArg Bool.not (decide_eq_true h_3))) ?_
    refine JC.skip ?_
    refine JQ.seq ?_
    refine JC.seq ?_
    refine JC.seq ?_
    refine JC.region ?_
    refine JL.pure rfl (PO.fieldAddr fo29_1 rfl) ?_
    refine JL.ld rfl (LO.load1 1 (v := .int .i64 s) rfl rfl Tryz.isAgg3 rfl) ?_
    refine JL.pure rfl (PO.fieldAddr fo29_1 rfl) ?_
    refine JL.ld rfl (LO.load1 0 (v := .int .i64 r) rfl rfl Tryz.isAgg3 rfl) ?_
    refine JL.pure rfl (PO.neqI rfl rfl) ?_
    refine JL.nil ?_
    refine JQ.seq ?_
    by_cases h_4 : s = r
    · skip
      refine JC.condF (congrArg Value.bool (congrArg Bool.not (decide_eq_true h_4))) ?_
      refine JC.skip ?_
      refine JQ.seq ?_
      refine JC.seq ?_
      refine JC.region ?_
      refine JL.pure rfl (PO.assign (v := .bool true) rfl) ?_
      refine JL.nil ?_
      refine JQ.seq ?_
      refine JC.ret ?_
      refine Done.one (.inl rfl) rfl (RV.tmp (v := .bool true) rfl) (List.nil_sublist _) ?_
      exact ⟨congrArg Value.bool (decide_eq_true ⟨by assumption, by assumption⟩).symm, rfl⟩
    · skip
      refine JC.condT (congrArg Value.bool (congrArg Bool.not (decide_eq_false h_4))) ?_
      refine JC.seq ?_
      refine JC.region ?_
      refine JL.pure rfl (PO.assign (v := .bool false) rfl) ?_
      refine JL.nil ?_
      refine JQ.seq ?_
      refine JC.ret ?_
      refine JQ.thenRet ?_
      refine Done.one (.inl rfl) rfl (RV.tmp (v := .bool false) rfl) (List.nil_sublist _) ?_
      exact ⟨congrArg Value.bool (decide_eq_false (fun h_ => by obtain ⟨h_0, h_1⟩ := h_; contradiction)).symm, rfl⟩
  · skip
    refine JC.condT (congrArg Value.bool (congrArg Bool.not (decide_eq_false h_3))) ?_
    refine JC.seq ?_
    refine JC.region ?_
    refine JL.pure rfl (PO.assign (v := .bool false) rfl) ?_
    refine JL.nil ?_
    refine JQ.seq ?_
    refine JC.ret ?_
    refine JQ.thenRet ?_
    refine Done.one (.inl rfl) rfl (RV.tmp (v := .bool false) rfl) (List.nil_sublist _) ?_
    exact ⟨congrArg Value.bool (decide_eq_false (fun h_ => by obtain ⟨h_0, h_1⟩ := h_; contradiction)).symm, rfl⟩

theorem C_szDisk (d : DX) (l : Int) (h0 : 0 ≤ l) (h1 : l ≤ 1048576) (hz : d.dat.okz) :
    Ct Tryz.prog 11 [.agg #[.slice d.a d.l.length d.c, str d.jt, .int .i64 d.js], .int .i64 l] [] (fun w => SeesAE w (rdsD d)) (fun r A' => r = .int .i64 (szDiskF d.dat l) ∧ A' = []) := by
  refine Ct.intro Tryz.func11 rfl Tryz.ntmps11 (Nat.le_of_ble_eq_true rfl) fun w0 hpre => ?_
  have hs_1 : SeesE w0 (.slice d.a d.l.length d.c) 3 d.l.length (d.l.flatMap encO) := (hpre).head
  have hi_2 : SeesAE w0 (d.l.flatMap rdsO) := (hpre).tail
  have hz0 : d.l.length ≤ 9223372036854775807 := by have := hz.k0; simpa only [DX.dat, List.length_map] using this
  have hz1 : ∀ j, j < d.l.length → (d.l.getD j o0).t.okz := fun j hj => hz.k1 _ (List.mem_map_of_mem (getD_mem hj))
  refine JC.seq ?_
  refine JC.region ?_
  refine JL.op rfl (JO.box (cs := [.slice d.a d.l.length d.c, str d.jt, .int .i64 d.js]) rfl rfl) ?_
  rintro _ _ ⟨b_3, rfl, rfl⟩
  refine JL.pure rfl (PO.assign (v := .int .i64 0) rfl) ?_
  refine JL.nil ?_
  refine JQ.seq ?_
  refine JC.seq ?_
  refine JC.region ?_
  refine JL.pure rfl (PO.fieldAddr fo26_0 rfl) ?_
  refine JL.ld rfl (LO.load1 0 (v := .slice d.a d.l.length d.c) rfl rfl Tryz.isAgg22 rfl) ?_
  refine JL.pure rfl (PO.move (v := .int .i64 l) rfl) ?_
  refine JL.op rfl (JO.call [] Tryz.call54 rfl (C_szSlotS d.a d.c d.l l (by omega) (by omega) hz0 hz1) rfl (fun w hw => SeesAE.cons (hw.seeOutE hs_1 (fun _ _ => List.not_mem_nil)) (hw.seeOutAE hi_2 nMA))) ?_
  rintro _ _ ⟨_, ⟨rfl, rfl⟩, rfl⟩
  have hle_4 := szLS_le szSlotF_le (d.l.map OX.t) l (by omega)
  refine JL.pure rfl (PO.assign (v := .int .i64 (szLS szSlotF (d.l.map OX.t) l)) rfl) ?_
  refine JL.nil ?_
  refine JQ.seq ?_
  refine JC.seq ?_
  refine JC.seq ?_
  refine JC.region ?_
  refine JL.pure rfl (PO.move (v := .int .i64 (szLS szSlotF (d.l.map OX.t) l)) rfl) ?_
  refine JL.pure rfl (PO.lss rfl rfl) ?_
  refine JL.nil ?_
  refine JQ.seq ?_
  by_cases h_5 : (szLS szSlotF (d.l.map OX.t) l) < 0
  · skip
    refine JC.condT (congrArg Value.bool (decide_eq_true h_5)) ?_
    refine JC.seq ?_
    refine JC.region ?_
    refine JL.pure rfl (PO.assign (v := .int .i64 (-1)) rfl) ?_
    refine JL.nil ?_
    refine JQ.seq ?_
    refine JC.ret ?_
    refine JQ.thenRet ?_
    refine Done.one (.inl rfl) rfl (RV.tmp (v := .int .i64 (-1)) rfl) (List.nil_sublist _) ?_
    refine ⟨congrArg (Value.int .i64) ?_, rfl⟩
    show _ = chk (szLS szSlotF (d.l.map OX.t) l) fun l => chk (szJournalF d.jt l) id
    simp only [chk, id_eq]
    (repeat (first | rw [if_pos (by omega)] | rw [if_neg (by omega)]))
  · skip
    refine JC.condF (congrArg Value.bool (decide_eq_false h_5)) ?_
    refine JC.skip ?_
    refine JQ.seq ?_
    refine JC.seq ?_
    refine JC.region ?_
    refine JL.pure rfl (PO.fieldAddr fo26_1 rfl) ?_
    refine JL.ld rfl (LO.loadK 0 (vs := [str d.jt, .int .i64 d.js]) rfl rfl Tryz.isAgg24 Tryz.sizeOf24 rfl rfl) ?_
    refine JL.pure rfl (PO.move (v := .int .i64 (szLS szSlotF (d.l.map OX.t) l)) rfl) ?_
    refine JL.op rfl (JO.call [] Tryz.call55 rfl (C_szJournal d.jt d.js (szLS szSlotF (d.l.map OX.t) l) (by omega) (by omega) hz.k2) rfl (fun _ _ => trivial)) ?_
    rintro _ _ ⟨_, ⟨rfl, rfl⟩, rfl⟩
    have hle_6 := szJournalF_le d.jt (szLS szSlotF (d.l.map OX.t) l) (by omega)
    refine JL.pure rfl (PO.assign (v := .int .i64 (szJournalF d.jt (szLS szSlotF (d.l.map OX.t) l))) rfl) ?_
    refine JL.nil ?_
    refine JQ.seq ?_
    refine JC.seq ?_
    refine JC.seq ?_
    refine JC.region ?_
    refine JL.pure rfl (PO.move (v := .int .i64 (szJournalF d.jt (szLS szSlotF (d.l.map OX.t) l))) rfl) ?_
    refine JL.pure rfl (PO.lss rfl rfl) ?_
    refine JL.nil ?_
    refine JQ.seq ?_
    by_cases h_7 : (szJournalF d.jt (szLS szSlotF (d.l.map OX.t) l)) < 0
    · skip
      refine JC.condT (congrArg Value.bool (decide_eq_true h_7)) ?_
      refine JC.seq ?_
      refine JC.region ?_
      refine JL.pure rfl (PO.assign (v := .int .i64 (-1)) rfl) ?_
      refine JL.nil ?_
      refine JQ.seq ?_
      refine JC.ret ?_
      refine JQ.thenRet ?_
      refine Done.one (.inl rfl) rfl (RV.tmp (v := .int .i64 (-1)) rfl) (List.nil_sublist _) ?_
      refine ⟨congrArg (Value.int .i64) ?_, rfl⟩
      show _ = chk (szLS szSlotF (d.l.map OX.t) l) fun l => chk (szJournalF d.jt l) id
      simp only [chk, id_eq]
      (repeat (first | rw [if_pos (by omega)] | rw [if_neg (by omega)]))
    · skip
      refine JC.condF (congrArg Value.bool (decide_eq_false h_7)) ?_
      refine JC.skip ?_
      refine JQ.seq ?_
      refine JC.seq ?_
      refine JC.region ?_
      refine JL.pure rfl (PO.move (v := .int .i64 (szJournalF d.jt (szLS szSlotF (d.l.map OX.t) l))) rfl) ?_
      refine JL.pure rfl (PO.assign (v := .int .i64 (szJournalF d.jt (szLS szSlotF (d.l.map OX.t) l))) rfl) ?_
      refine JL.nil ?_
      refine JQ.seq ?_
      refine JC.ret ?_
      refine Done.one (.inl rfl) rfl (RV.tmp (v := .int .i64 (szJournalF d.jt (szLS szSlotF (d.l.map OX.t) l))) rfl) (List.nil_sublist _) ?_
      refine ⟨congrArg (Value.int .i64) ?_, rfl⟩
      show _ = chk (szLS szSlotF (d.l.map OX.t) l) fun l => chk (szJournalF d.jt l) id
      simp only [chk, id_eq]
      (repeat (first | rw [if_pos (by omega)] | rw [if_neg (by omega)]))

theorem C_toDisk (d : DX) (hl : d.dat.lim 1048576) :
    Ct Tryz.prog 13 [.agg #[.slice d.a d.l.length d.c, str d.jt, .int .i64 d.js]] [] (fun w => SeesAE w (rdsD d)) (fun v A' => ∃ y : DX, y.dat = d.dat ∧ v = .agg #[.slice y.a y.l.length y.c, str y.jt, .int .i64 y.js] ∧ A' = [.rows (rdsD y)]) := by
  refine Ct.intro Tryz.func13 rfl Tryz.ntmps13 (Nat.le_of_ble_eq_true rfl) fun w0 hpre => ?_
  have hs_1 : SeesE w0 (.slice d.a d.l.length d.c) 3 d.l.length (d.l.flatMap encO) := (hpre).head
  have hi_2 : SeesAE w0 (d.l.flatMap rdsO) := (hpre).tail
  have hlm : d.l.length ≤ 1048576 ∧ ∀ q ∈ d.l, q.t.lim 1048576 := ⟨by have := hl.l0; simpa only [DX.dat, List.length_map] using this, fun q hq => hl.l1 _ (List.mem_map_of_mem hq)⟩
  have hlm0 := hlm.1
  refine JC.seq ?_
  refine JC.region ?_
  refine JL.op rfl (JO.box (cs := [.slice d.a d.l.length d.c, str d.jt, .int .i64 d.js]) rfl rfl) ?_
  rintro _ _ ⟨b_3, rfl, rfl⟩
  refine JL.op rfl (JO.alloc (z := .agg #[.slice none 0 0, str [], .int .i64 0]) (cs := [.slice none 0 0, str [], .int .i64 0]) Tryz.zeroValue31 rfl) ?_
  rintro _ _ ⟨b_4, rfl, rfl⟩
  refine JL.nil ?_
  refine JQ.seq ?_
  refine JC.seq ?_
  refine JC.region ?_
  refine JL.op rfl (JO.alloc (z := .agg #[.slice none 0 0, str [], .int .i64 0]) (cs := [.slice none 0 0, str [], .int .i64 0]) Tryz.zeroValue31 rfl) ?_
  rintro _ _ ⟨b_5, rfl, rfl⟩
  refine JL.nil ?_
  refine JQ.seq ?_
  refine JC.seq ?_
  refine JC.region ?_
  refine JL.pure rfl (PO.fieldAddr fo26_0 rfl) ?_
  refine JL.ld rfl (LO.load1 2 (v := .slice d.a d.l.length d.c) rfl rfl Tryz.isAgg22 rfl) ?_
  refine JL.op rfl (JO.call [] Tryz.call60 rfl (C_toSlotS d.a d.c d.l (by omega) hlm.2) rfl (fun w hw => SeesAE.cons (hw.seeOutE hs_1 (fun _ _ => List.not_mem_nil)) (hw.seeOutAE hi_2 nMA))) ?_
  rintro _ _ ⟨_, ⟨a_6, c_7, y_8, hy_9, rfl, rfl⟩, rfl⟩
  refine JL.pure rfl (PO.fieldAddr fo31_0 rfl) ?_
  refine JL.op rfl (JO.store 1 (vs := [.slice a_6 y_8.length c_7]) (cs' := [.slice a_6 y_8.length c_7, str [], .int .i64 0]) rfl rfl rfl rfl Tryz.sizeOf28 rfl rfl (Nat.le_of_ble_eq_true rfl) rfl) ?_
  rintro _ _ rfl
  refine JL.nil ?_
  refine JQ.seq ?_
  refine JC.seq ?_
  refine JC.region ?_
  refine JL.pure rfl (PO.fieldAddr fo26_1 rfl) ?_
  refine JL.ld rfl (LO.loadK 3 (vs := [str d.jt, .int .i64 d.js]) rfl rfl Tryz.isAgg24 Tryz.sizeOf24 rfl rfl) ?_
  refine JL.op rfl (JO.call [] Tryz.call61 rfl (C_toJournal d.jt d.js) rfl (fun _ _ => trivial)) ?_
  rintro _ _ ⟨_, ⟨rfl, rfl⟩, rfl⟩
  refine JL.pure rfl (PO.fieldAddr fo31_1 rfl) ?_
  refine JL.op rfl (JO.store 1 (vs := [str d.jt, .int .i64 d.js]) (cs' := [.slice a_6 y_8.length c_7, str d.jt, .int .i64 d.js]) rfl rfl rfl rfl Tryz.sizeOf29 rfl rfl (Nat.le_of_ble_eq_true rfl) rfl) ?_
  rintro _ _ rfl
  refine JL.nil ?_
  refine JQ.seq ?_
  refine JC.seq ?_
  refine JC.region ?_
  refine JL.ld rfl (LO.loadK 1 (vs := [.slice a_6 y_8.length c_7, str d.jt, .int .i64 d.js]) rfl rfl Tryz.isAgg31 Tryz.sizeOf31 rfl rfl) ?_
  refine JL.op rfl (JO.store 2 (vs := [.slice a_6 y_8.length c_7, str d.jt, .int .i64 d.js]) (cs' := [.slice a_6 y_8.length c_7, str d.jt, .int .i64 d.js]) rfl rfl rfl rfl Tryz.sizeOf31 rfl rfl (Nat.le_of_ble_eq_true rfl) rfl) ?_
  rintro _ _ rfl
  refine JL.nil ?_
  refine JQ.seq ?_
  refine JC.ret ?_
  refine Done.one (.inl rfl) rfl (RV.cell1 (LO.loadK 2 (vs := [.slice a_6 y_8.length c_7, str d.jt, .int .i64 d.js]) rfl rfl Tryz.isAgg31 Tryz.sizeOf31 rfl rfl) ⟨_, rfl⟩) (List.sublist_append_left [Res.rows (rdsOS a_6 c_7 y_8)] [bk b_5 31 [.slice a_6 y_8.length c_7, str d.jt, .int .i64 d.js], bk b_4 31 [.slice a_6 y_8.length c_7, str d.jt, .int .i64 d.js], bk b_3 26 [.slice d.a d.l.length d.c, str d.jt, .int .i64 d.js]]) ?_
  exact ⟨⟨a_6, c_7, y_8, d.jt, d.js⟩, by simp only [DX.dat, hy_9], rfl, rfl⟩

theorem C_eqDisk (d e : DX) (hl : d.dat.lim 1000000000) :
    Ct Tryz.prog 15 [.agg #[.slice d.a d.l.length d.c, str d.jt, .int .i64 d.js], .agg #[.slice e.a e.l.length e.c, str e.jt, .int .i64 e.js]] [] (fun w => SeesA w (rdsD d) ∧ SeesA w (rdsD e)) (fun v A' => v = .bool (decide (d.dat = e.dat)) ∧ A' = []) := by
  refine Ct.intro Tryz.func15 rfl Tryz.ntmps15 (Nat.le_of_ble_eq_true rfl) fun w0 hpre => ?_
  have hs_1 : Sees w0 (.slice d.a d.l.length d.c) 3 d.l.length (d.l.flatMap encO) := (hpre.1).head
  have hi_2 : SeesA w0 (d.l.flatMap rdsO) := (hpre.1).tail
  have hs_3 : Sees w0 (.slice e.a e.l.length e.c) 3 e.l.length (e.l.flatMap encO) := (hpre.2).head
  have hi_4 : SeesA w0 (e.l.flatMap rdsO) := (hpre.2).tail
  have hlm : d.l.length ≤ 1000000000 ∧ ∀ q ∈ d.l, q.t.lim 1000000000 := ⟨by have := hl.l0; simpa only [DX.dat, List.length_map] using this, fun q hq => hl.l1 _ (List.mem_map_of_mem hq)⟩
  have hlm0 := hlm.1
  refine JC.seq ?_
  refine JC.region ?_
  refine JL.op rfl (JO.box (cs := [.slice d.a d.l.length d.c, str d.jt, .int .i64 d.js]) rfl rfl) ?_
  rintro _ _ ⟨b_5, rfl, rfl⟩
  refine JL.op rfl (JO.box (cs := [.slice e.a e.l.length e.c, str e.jt, .int .i64 e.js]) rfl rfl) ?_
  rintro _ _ ⟨b_6, rfl, rfl⟩
  refine JL.pure rfl (PO.assign (v := .bool false) rfl) ?_
  refine JL.nil ?_
  refine JQ.seq ?_
  refine JC.seq ?_
  refine JC.seq ?_
  refine JC.region ?_
  refine JL.pure rfl (PO.fieldAddr fo31_0 rfl) ?_
  refine JL.ld rfl (LO.load1 1 (v := .slice d.a d.l.length d.c) rfl rfl Tryz.isAgg28 rfl) ?_
  refine JL.pure rfl (PO.fieldAddr fo31_0 rfl) ?_
  refine JL.ld rfl (LO.load1 0 (v := .slice e.a e.l.length e.c) rfl rfl Tryz.isAgg28 rfl) ?_
  refine JL.op rfl (JO.call [] Tryz.call65 rfl (C_eqSlotS d.a e.a d.c e.c d.l e.l (by omega) hlm.2) rfl (fun w hw => ⟨SeesA.cons (hw.seeOut_ hs_1 (fun _ _ => List.not_mem_nil)) (hw.seeOutA hi_2 nMA), SeesA.cons (hw.seeOut_ hs_3 (fun _ _ => List.not_mem_nil)) (hw.seeOutA hi_4 nMA)⟩)) ?_
  rintro _ _ ⟨_, ⟨rfl, rfl⟩, rfl⟩
  refine JL.pure rfl (PO.not rfl) ?_
  refine JL.nil ?_
  refine JQ.seq ?_
  by_cases h_7 : d.l.map OX.t = e.l.map OX.t
  · skip
    refine JC.condF (congrArg Value.bool (congrArg Bool.not (decide_eq_true h_7))) ?_
    refine JC.skip ?_
    refine JQ.seq ?_
    refine JC.seq ?_
    refine JC.seq ?_
    refine JC.region ?_
    refine JL.pure rfl (PO.fieldAddr fo31_1 rfl) ?_
    refine JL.ld rfl (LO.loadK 1 (vs := [str d.jt, .int .i64 d.js]) rfl rfl Tryz.isAgg29 Tryz.sizeOf29 rfl rfl) ?_
    refine JL.pure rfl (PO.fieldAddr fo31_1 rfl) ?_
    refine JL.ld rfl (LO.loadK 0 (vs := [str e.jt, .int .i64 e.js]) rfl rfl Tryz.isAgg29 Tryz.sizeOf29 rfl rfl) ?_
    refine JL.op rfl (JO.call [] Tryz.call66 rfl (C_eqJournal d.jt d.js e.jt e.js) rfl (fun _ _ => trivial)) ?_
    rintro _ _ ⟨_, ⟨rfl, rfl⟩, rfl⟩
    refine JL.pure rfl (PO.not rfl) ?_
    refine JL.nil ?_
    refine JQ.seq ?_
    by_cases h_8 : d.jt = e.jt ∧ d.js = e.js
    · skip
      obtain ⟨ht_9, ht_10⟩ := id h_8
      refine JC.condF (congrArg Value.bool (congrArg Bool.not (decide_eq_true h_8))) ?_
      refine JC.skip ?_
      refine JQ.seq ?_
      refine JC.seq ?_
      refine JC.region ?_
      refine JL.pure rfl (PO.assign (v := .bool true) rfl) ?_
      refine JL.nil ?_
      refine JQ.seq ?_
      refine JC.ret ?_
      refine Done.one (.inl rfl) rfl (RV.tmp (v := .bool true) rfl) (List.nil_sublist _) ?_
      exact ⟨congrArg Value.bool (decide_eq_true (DD.same.2 ⟨by assumption, by assumption, by assumption⟩)).symm, rfl⟩
    · skip
      refine JC.condT (congrArg Value.bool (congrArg Bool.not (decide_eq_false h_8))) ?_
      refine JC.seq ?_
      refine JC.region ?_
      refine JL.pure rfl (PO.assign (v := .bool false) rfl) ?_
      refine JL.nil ?_
      refine JQ.seq ?_
      refine JC.ret ?_
      refine JQ.thenRet ?_
      refine Done.one (.inl rfl) rfl (RV.tmp (v := .bool false) rfl) (List.nil_sublist _) ?_
      exact ⟨congrArg Value.bool (decide_eq_false (fun h_ => by obtain ⟨h_0, h_1, h_2⟩ := DD.same.1 h_; first | exact absurd (show d.l.map OX.t = e.l.map OX.t from h_0) (by assumption) | exact absurd (show d.jt = e.jt ∧ d.js = e.js from ⟨h_1, h_2⟩) (by assumption))).symm, rfl⟩
  · skip
    refine JC.condT (congrArg Value.bool (congrArg Bool.not (decide_eq_false h_7))) ?_
    refine JC.seq ?_
    refine JC.region ?_
    refine JL.pure rfl (PO.assign (v := .bool false) rfl) ?_
    refine JL.nil ?_
    refine JQ.seq ?_
    refine JC.ret ?_
    refine JQ.thenRet ?_
    refine Done.one (.inl rfl) rfl (RV.tmp (v := .bool false) rfl) (List.nil_sublist _) ?_
    exact ⟨congrArg Value.bool (decide_eq_false (fun h_ => by obtain ⟨h_0, h_1, h_2⟩ := DD.same.1 h_; first | exact absurd (show d.l.map OX.t = e.l.map OX.t from h_0) (by assumption) | exact absurd (show d.jt = e.jt ∧ d.js = e.js from ⟨h_1, h_2⟩) (by assumption))).symm, rfl⟩

theorem C_markDisk (d : DX) (k : Nat) (h0 : 0 < k) (h1 : k + cntV cntO d.l ≤ 100000000) (hn : d.l.length ≤ 1000000000) :
    Ct Tryz.prog 16 [.agg #[.slice d.a d.l.length d.c, str d.jt, .int .i64 d.js], .int .i64 ((k : Nat) : Int)] [Res.rows (rdsD d)] (fun _ => True) (fun v A' => v = .int .i64 ((k + cntV cntO d.l : Nat) : Int) ∧ A' = [.rows (rdsOS d.a d.c (markV mkO cntO d.l k))]) := by
  refine Ct.intro Tryz.func16 rfl Tryz.ntmps16 (Nat.le_of_ble_eq_true rfl) fun w0 hpre => ?_
  refine JC.ghost (L' := [Res.rows (rdsOS d.a d.c d.l)]) (fun w hw => hw.eqL rfl) ?_
  refine JC.seq ?_
  refine JC.region ?_
  refine JL.op rfl (JO.box (cs := [.slice d.a d.l.length d.c, str d.jt, .int .i64 d.js]) rfl rfl) ?_
  rintro _ _ ⟨b_1, rfl, rfl⟩
  refine JL.pure rfl (PO.assign (v := .int .i64 0) rfl) ?_
  refine JL.nil ?_
  refine JQ.seq ?_
  refine JC.seq ?_
  refine JC.region ?_
  refine JL.pure rfl (PO.fieldAddr fo31_0 rfl) ?_
  refine JL.ld rfl (LO.load1 0 (v := .slice d.a d.l.length d.c) rfl rfl Tryz.isAgg28 rfl) ?_
  refine JL.pure rfl (PO.move (v := .int .i64 ((k : Nat) : Int)) rfl) ?_
  refine JL.op rfl (JO.call [1] Tryz.call67 rfl (C_markSlotS d.a d.c d.l k (by omega) (by omega) (by omega)) rfl (fun _ _ => trivial)) ?_
  rintro _ _ ⟨_, ⟨rfl, rfl⟩, rfl⟩
  refine JL.pure rfl (PO.assign (v := .int .i64 ((k + cntV cntO d.l : Nat) : Int)) rfl) ?_
  refine JL.nil ?_
  refine JQ.seq ?_
  refine JC.seq ?_
  refine JC.region ?_
  refine JL.pure rfl (PO.move (v := .int .i64 ((k + cntV cntO d.l : Nat) : Int)) rfl) ?_
  refine JL.pure rfl (PO.assign (v := .int .i64 ((k + cntV cntO d.l : Nat) : Int)) rfl) ?_
  refine JL.nil ?_
  refine JQ.seq ?_
  refine JC.ret ?_
  refine Done.one (.inl rfl) rfl (RV.tmp (v := .int .i64 ((k + cntV cntO d.l : Nat) : Int)) rfl) (List.sublist_append_left [Res.rows (rdsOS d.a d.c (markV mkO cntO d.l k))] [bk b_1 31 [.slice d.a d.l.length d.c, str d.jt, .int .i64 d.js]]) ?_
  exact ⟨rfl, rfl⟩

theorem C_heldDisk (d : DX) (k : Nat) (h0 : 0 < k) (h1 : k + cntV cntO d.l ≤ 100000000) (hn : d.l.length ≤ 1000000000) :
    Ct Tryz.prog 17 [.agg #[.slice d.a d.l.length d.c, str d.jt, .int .i64 d.js], .int .i64 ((k : Nat) : Int)] [] (fun w => SeesA w (rdsOS d.a d.c (markV mkO cntO d.l k))) (fun v A' => v = .int .i64 ((k + cntV cntO d.l : Nat) : Int) ∧ A' = []) := by
  refine Ct.intro Tryz.func17 rfl Tryz.ntmps17 (Nat.le_of_ble_eq_true rfl) fun w0 hpre => ?_
  refine JC.seq ?_
  refine JC.region ?_
  refine JL.op rfl (JO.box (cs := [.slice d.a d.l.length d.c, str d.jt, .int .i64 d.js]) rfl rfl) ?_
  rintro _ _ ⟨b_1, rfl, rfl⟩
  refine JL.pure rfl (PO.assign (v := .int .i64 0) rfl) ?_
  refine JL.nil ?_
  refine JQ.seq ?_
  refine JC.seq ?_
  refine JC.region ?_
  refine JL.pure rfl (PO.fieldAddr fo31_0 rfl) ?_
  refine JL.ld rfl (LO.load1 0 (v := .slice d.a d.l.length d.c) rfl rfl Tryz.isAgg28 rfl) ?_
  refine JL.pure rfl (PO.move (v := .int .i64 ((k : Nat) : Int)) rfl) ?_
  refine JL.op rfl (JO.call [] Tryz.call68 rfl (C_heldSlotS d.a d.c d.l k (by omega) (by omega) (by omega)) rfl (fun w hw => hw.seeOutA hpre nMA)) ?_
  rintro _ _ ⟨_, ⟨rfl, rfl⟩, rfl⟩
  refine JL.pure rfl (PO.assign (v := .int .i64 ((k + cntV cntO d.l : Nat) : Int)) rfl) ?_
  refine JL.nil ?_
  refine JQ.seq ?_
  refine JC.seq ?_
  refine JC.seq ?_
  refine JC.region ?_
  refine JL.pure rfl (PO.move (v := .int .i64 ((k + cntV cntO d.l : Nat) : Int)) rfl) ?_
  refine JL.pure rfl (PO.lss rfl rfl) ?_
  refine JL.nil ?_
  refine JQ.seq ?_
  by_cases h_2 : ((k + cntV cntO d.l : Nat) : Int) < 0
  · skip
    refine JC.condT (congrArg Value.bool (decide_eq_true h_2)) ?_
    refine JC.seq ?_
    refine JC.region ?_
    refine JL.pure rfl (PO.assign (v := .int .i64 (-1)) rfl) ?_
    refine JL.nil ?_
    refine JQ.seq ?_
    refine JC.ret ?_
    refine JQ.thenRet ?_
    refine Done.one (.inl rfl) rfl (RV.tmp (v := .int .i64 (-1)) rfl) (List.nil_sublist _) ?_
    exfalso
    omega
  · skip
    refine JC.condF (congrArg Value.bool (decide_eq_false h_2)) ?_
    refine JC.skip ?_
    refine JQ.seq ?_
    refine JC.seq ?_
    refine JC.region ?_
    refine JL.pure rfl (PO.move (v := .int .i64 ((k + cntV cntO d.l : Nat) : Int)) rfl) ?_
    refine JL.pure rfl (PO.assign (v := .int .i64 ((k + cntV cntO d.l : Nat) : Int)) rfl) ?_
    refine JL.nil ?_
    refine JQ.seq ?_
    refine JC.ret ?_
    refine Done.one (.inl rfl) rfl (RV.tmp (v := .int .i64 ((k + cntV cntO d.l : Nat) : Int)) rfl) (List.nil_sublist _) ?_
    exact ⟨rfl, rfl⟩

end Go.Proofs.YtjncpgcccgdeiaaGreatDoor

set_option linter.unusedSimpArgs false
set_option linter.unusedVariables false
set_option linter.unnecessarySimpa false
namespace Go.Proofs.YtjncpgcccgdeiaaGreatDoor
open Go Go.RowKit
attribute [local irreducible] JL JC JQ JO LO PO JA JX Ct

theorem Z_cloneO (a : Option Addr) (c : Nat) (s : List OX) (hn : s.length ≤ 1000000000000) :
    Ct Tryz.prog 109 [.slice a s.length c] [] (fun w_ => Sees w_ (.slice a s.length c) 3 s.length (s.flatMap encO)) (fun v A' => ∃ a' c', v = .slice a' s.length c' ∧ A' = [.row (.slice a' s.length c') 60 3 s.length (s.flatMap encO)]) := by
  refine Ct.intro Tryz.func109 rfl Tryz.ntmps109 (Nat.le_of_ble_eq_true rfl) fun w0 hpre => ?_
  have hs_a : Sees w0 _ _ _ _ := hpre
  refine JC.seq ?_
  refine JC.region ?_
  refine JL.pure rfl (PO.assign (v := .slice none 0 0) rfl) ?_
  refine JL.nil ?_
  refine JQ.seq ?_
  refine JC.seq ?_
  refine JC.seq ?_
  refine JC.region ?_
  refine JL.pure rfl (PO.move (v := .slice a s.length c) rfl) ?_
  refine JL.pure rfl (PO.eqNil Tryz.underlying28 rfl rfl) ?_
  refine JL.nil ?_
  refine JQ.seq ?_
  rcases Bool.eq_false_or_eq_true (a.isNone) with h_1 | h_1
  · skip
    refine JC.condT (congrArg Value.bool h_1) ?_
    refine JC.seq ?_
    refine JC.region ?_
    refine JL.pure rfl (PO.assign (v := .slice none 0 0) rfl) ?_
    refine JL.nil ?_
    refine JQ.seq ?_
    refine JC.ret ?_
    refine JQ.thenRet ?_
    refine JQ.nilrow 60 3 ?_
    refine Done.one (.inl rfl) rfl (RV.tmp (v := .slice none 0 0) rfl) (List.Sublist.refl _) ?_
    have ha : a = none := by simpa using h_1
    have hz : s.length = 0 := sees_none (ha ▸ hpre)
    have hs0 : s = [] := List.length_eq_zero_iff.1 hz
    subst hs0
    exact ⟨none, 0, rfl, rfl⟩
  · skip
    refine JC.condF (congrArg Value.bool h_1) ?_
    refine JC.skip ?_
    refine JQ.seq ?_
    refine JC.seq ?_
    refine JC.region ?_
    refine JL.op rfl (JO.buildSlice (ps := []) (cur := #[]) Tryz.underlying28 Tryz.sizeOf60 Tryz.zeroValue60 rfl (by kernel_rfl) (by decide) (by decide)) ?_
    rintro _ _ ⟨a_2, rfl, rfl⟩
    refine JL.pure rfl (PO.move (v := .slice a s.length c) rfl) ?_
    refine JL.op rfl (JO.append' 0 (q := s.length) (news := s.flatMap encO) (n' := s.length) (cs' := s.flatMap encO) rfl Tryz.underlying28 Tryz.underlying28 Tryz.typeInfo60 rfl (by' := 40) rfl rfl rfl rfl rfl (fun w hw => Src.sees (hw.seeOut_ hs_a (fun _ _ => List.not_mem_nil)) (oneO _)) (by (try simp only [List.length_append, List.length_cons, List.length_nil, List.length_take, List.length_drop]); omega) (by (try simp only [List.length_append, List.length_cons, List.length_nil, List.length_take, List.length_drop]); omega) (by (try simp only [List.length_take, List.length_drop]); first | rfl | omega) rfl) ?_
    rintro _ _ ⟨a_3, c_4, rfl, rfl⟩
    refine JL.pure rfl (PO.assign (v := .slice a_3 s.length c_4) rfl) ?_
    refine JL.nil ?_
    refine JQ.seq ?_
    refine JC.ret ?_
    refine Done.one (.inl rfl) rfl (RV.tmp (v := .slice a_3 s.length c_4) rfl) (List.Sublist.refl _) ?_
    exact ⟨_, _, rfl, rfl⟩

set_option maxRecDepth 4000 in
set_option maxHeartbeats 1000000 in
theorem Z_implDiskclone (d : DX) (hl : d.dat.lim 1000000000) :
    Ct Tryz.prog 62 [.agg #[.slice d.a d.l.length d.c, str d.jt, .int .i64 d.js]] [] (fun w => SeesA w (rdsD d)) (fun v A' => ∃ y : DX, y.dat = d.dat ∧ v = .agg #[.slice y.a y.l.length y.c, str y.jt, .int .i64 y.js] ∧ A' = [.rows (rdsD y)]) := by
  refine Ct.intro Tryz.func62 rfl Tryz.ntmps62 (Nat.le_of_ble_eq_true rfl) fun w0 hpre => ?_
  have hs_1 : Sees w0 (.slice d.a d.l.length d.c) 3 d.l.length (d.l.flatMap encO) := (hpre).head
  have hi_2 : SeesA w0 (d.l.flatMap rdsO) := (hpre).tail
  have hlm : d.l.length ≤ 1000000000 ∧ ∀ q ∈ d.l, q.t.lim 1000000000 := ⟨by have := hl.l0; simpa only [DX.dat, List.length_map] using this, fun q hq => hl.l1 _ (List.mem_map_of_mem hq)⟩
  have hlm0 := hlm.1
  refine JC.seq ?_
  refine JC.region ?_
  refine JL.op rfl (JO.box (cs := [.slice d.a d.l.length d.c, str d.jt, .int .i64 d.js]) rfl rfl) ?_
  rintro _ _ ⟨b_3, rfl, rfl⟩
  refine JL.op rfl (JO.alloc (z := .agg #[.slice none 0 0, str [], .int .i64 0]) (cs := [.slice none 0 0, str [], .int .i64 0]) Tryz.zeroValue31 rfl) ?_
  rintro _ _ ⟨b_4, rfl, rfl⟩
  refine JL.nil ?_
  refine JQ.seq ?_
  refine JC.seq ?_
  refine JC.regionA [bk b_4 31 [.slice none 0 0, str [], .int .i64 0], bk b_3 31 [.slice d.a d.l.length d.c, str d.jt, .int .i64 d.js]] 7 mixed (by simp) ?_
  refine JA.takeP 0 rfl (by kernel_rfl) (NP.th NP.body) (by kernel_rfl) (by kernel_rfl) rfl (PO.fieldAddr fo31_0 rfl) ?_
  refine JA.take 1 rfl (by kernel_rfl) (NP.th NP.body) (by kernel_rfl) (by kernel_rfl) (by kernel_rfl) rfl (LO.load1 1 (v := .slice d.a d.l.length d.c) rfl rfl Tryz.isAgg28 rfl) ?_
  refine JA.takeP 3 rfl (by kernel_rfl) (NP.th NP.body) (by kernel_rfl) (by kernel_rfl) rfl (PO.fieldAddr fo31_1 rfl) ?_
  refine JA.take 4 rfl (by kernel_rfl) (NP.th NP.body) (by kernel_rfl) (by kernel_rfl) (by kernel_rfl) rfl (LO.loadK 1 (vs := [str d.jt, .int .i64 d.js]) rfl rfl Tryz.isAgg29 Tryz.sizeOf29 rfl rfl) ?_
  refine JA.two (i := 2) (j := 6) (by kernel_rfl) ?_ ?_
  · skip
    refine JX.op rfl rfl (JO.call [] Tryz.call109 rfl (Z_cloneO d.a d.c d.l (by omega)) rfl (fun w hw => hw.seeOut_ hs_1 (fun _ _ => List.not_mem_nil))) ?_
    rintro _ _ ⟨_, ⟨a_12, c_13, rfl, rfl⟩, rfl⟩
    refine ⟨by simp, ?_⟩
    refine JA.takeP 5 rfl (by kernel_rfl) (NP.th NP.body) (by kernel_rfl) (by kernel_rfl) rfl (PO.build (ps := [(0, .slice a_12 d.l.length c_13), (1, .agg #[str d.jt, .int .i64 d.js])]) (cs := [.slice a_12 d.l.length c_13, str d.jt, .int .i64 d.js]) rfl (by kernel_rfl)) ?_
    refine JA.one (i := 6) (by kernel_rfl) ?_
    refine JX.op rfl rfl (JO.alloc (z := .agg #[.slice none 0 0, str [], .int .i64 0]) (cs := [.slice none 0 0, str [], .int .i64 0]) Tryz.zeroValue31 rfl) ?_
    rintro _ _ ⟨b_15, rfl, rfl⟩
    refine ⟨by simp, ?_⟩
    refine JA.one (i := 7) (by kernel_rfl) ?_
    refine JX.last rfl rfl (by decide) (by kernel_rfl) (JO.store 0 (vs := [.slice a_12 d.l.length c_13, str d.jt, .int .i64 d.js]) (cs' := [.slice a_12 d.l.length c_13, str d.jt, .int .i64 d.js]) rfl rfl rfl rfl Tryz.sizeOf31 rfl rfl (Nat.le_of_ble_eq_true rfl) rfl) ?_
    rintro _ _ rfl
    refine JQ.seq ?_
    refine JC.seq ?_
    refine JC.seq ?_
    refine JC.region ?_
    refine JL.pure rfl (PO.fieldAddr fo31_0 rfl) ?_
    refine JL.ld rfl (LO.load1 0 (v := .slice a_12 d.l.length c_13) rfl rfl Tryz.isAgg28 rfl) ?_
    refine JL.pure rfl (PO.lenV Tryz.underlying28 rfl) ?_
    refine JL.pure rfl (PO.move (v := .int .i64 0) rfl) ?_
    refine JL.nil ?_
    refine JQ.seq ?_
    refine JC.block ?_
    refine JC.ghost (L' := [Res.rows (([] : List OX).flatMap rdsO), Res.row (.slice a_12 d.l.length c_13) 60 3 d.l.length (d.l.flatMap encO), bk b_15 31 [.slice a_12 d.l.length c_13, str d.jt, .int .i64 d.js], bk b_4 31 [.slice none 0 0, str [], .int .i64 0], bk b_3 31 [.slice d.a d.l.length d.c, str d.jt, .int .i64 d.js]]) (fun w hw => hw.nilR (α := OX) (f := rdsO) [1] (B := [Res.row (.slice a_12 d.l.length c_13) 60 3 d.l.length (d.l.flatMap encO)]) (F := [bk b_15 31 [.slice a_12 d.l.length c_13, str d.jt, .int .i64 d.js], bk b_4 31 [.slice none 0 0, str [], .int .i64 0], bk b_3 31 [.slice d.a d.l.length d.c, str d.jt, .int .i64 d.js]]) rfl) ?_
    refine JC.loop (fun k_ e_ L_ => ∃ j : Nat, ∃ y : List OX, (j ≤ d.l.length) ∧ (y.map OX.t = (d.l.take j).map OX.t) ∧ (y.length = j) ∧ e_ 2 = .pointer (some ⟨b_4, 0, none⟩) ∧ e_ 3 = .pointer (some ⟨b_15, 0, none⟩) ∧ e_ 13 = .int .i64 ((d.l.length : Nat) : Int) ∧ e_ 14 = .int .i64 ((j : Nat) : Int) ∧ L_ = [Res.rows (y.flatMap rdsO), Res.row (.slice a_12 d.l.length c_13) 60 3 d.l.length ((y ++ d.l.drop j).flatMap encO), bk b_15 31 [.slice a_12 d.l.length c_13, str d.jt, .int .i64 d.js], bk b_4 31 [.slice none 0 0, str [], .int .i64 0], bk b_3 31 [.slice d.a d.l.length d.c, str d.jt, .int .i64 d.js]] ∧ k_ = d.l.length - j) _ ⟨0, [], by omega, rfl, rfl, rfl, rfl, rfl, rfl, rfl, rfl⟩ ?_
    rintro _ e_16 _ ⟨j, y, hj, hd, hyl, he_17, he_18, he_19, he_20, rfl, rfl⟩
    refine JC.seq ?_
    refine JC.region ?_
    refine JL.pure rfl (PO.lss he_20 he_19) ?_
    refine JL.nil ?_
    refine JQ.seq ?_
    refine JC.seq ?_
    by_cases h_21 : ((j : Nat) : Int) < ((d.l.length : Nat) : Int)
    · skip
      have hlt : j < d.l.length := by omega
      refine JC.ghost (L' := [Res.row (.slice a_12 d.l.length c_13) 60 3 d.l.length (mid encO y [.int .i64 ((d.l.getD j o0).t.seq), .slice ((d.l.getD j o0).x.a0) ((d.l.getD j o0).t.cells.length) ((d.l.getD j o0).x.c0), .bool ((d.l.getD j o0).t.whole)] (d.l.drop (j + 1))), Res.rows (y.flatMap rdsO), bk b_15 31 [.slice a_12 d.l.length c_13, str d.jt, .int .i64 d.js], bk b_4 31 [.slice none 0 0, str [], .int .i64 0], bk b_3 31 [.slice d.a d.l.length d.c, str d.jt, .int .i64 d.js]]) (fun w hw => hw.midR 1 rfl o0 hlt) ?_
      have hi_22 := SeesA.elem hi_2 o0 hlt
      have hs_23 := seesO hi_22
      obtain ⟨hb_24⟩ : (d.l.getD j o0).t.lim 1000000000 := (hlm.2 _ (getD_mem (show j < d.l.length by omega)))
      refine JC.condT (congrArg Value.bool (decide_eq_true h_21)) ?_
      refine JC.skip ?_
      refine JQ.seq ?_
      refine JC.seq ?_
      refine JC.block ?_
      refine JC.seq ?_
      refine JC.region ?_
      refine JL.pure rfl (PO.move (v := .int .i64 ((j : Nat) : Int)) he_20) ?_
      refine JL.pure rfl (PO.assign (v := .int .i64 ((j : Nat) : Int)) rfl) ?_
      refine JL.nil ?_
      refine JQ.seq ?_
      refine JC.regionA [Res.row (.slice a_12 d.l.length c_13) 60 3 d.l.length (mid encO y [.int .i64 ((d.l.getD j o0).t.seq), .slice ((d.l.getD j o0).x.a0) ((d.l.getD j o0).t.cells.length) ((d.l.getD j o0).x.c0), .bool ((d.l.getD j o0).t.whole)] (d.l.drop (j + 1))), Res.rows (y.flatMap rdsO), bk b_15 31 [.slice a_12 d.l.length c_13, str d.jt, .int .i64 d.js], bk b_4 31 [.slice none 0 0, str [], .int .i64 0], bk b_3 31 [.slice d.a d.l.length d.c, str d.jt, .int .i64 d.js]] 10 mixed (by simp) ?_
      refine JA.takeP 0 rfl (by kernel_rfl) (NP.bl (NP.th (NP.th (NP.bl (NP.th NP.body))))) (by kernel_rfl) (by kernel_rfl) rfl (PO.fieldAddr fo31_0 he_18) ?_
      refine JA.take 1 rfl (by kernel_rfl) (NP.bl (NP.th (NP.th (NP.bl (NP.th NP.body))))) (by kernel_rfl) (by kernel_rfl) (by kernel_rfl) rfl (LO.load1 2 (v := .slice a_12 d.l.length c_13) rfl rfl Tryz.isAgg28 rfl) ?_
      refine JA.takeP 2 rfl (by kernel_rfl) (NP.bl (NP.th (NP.th (NP.bl (NP.th NP.body))))) (by kernel_rfl) (by kernel_rfl) rfl (PO.move (v := .int .i64 ((j : Nat) : Int)) rfl) ?_
      refine JA.takeP 3 rfl (by kernel_rfl) (NP.bl (NP.th (NP.th (NP.bl (NP.th NP.body))))) (by kernel_rfl) (by kernel_rfl) rfl (PO.fieldAddr fo31_0 he_18) ?_
      refine JA.take 4 rfl (by kernel_rfl) (NP.bl (NP.th (NP.th (NP.bl (NP.th NP.body))))) (by kernel_rfl) (by kernel_rfl) (by kernel_rfl) rfl (LO.load1 2 (v := .slice a_12 d.l.length c_13) rfl rfl Tryz.isAgg28 rfl) ?_
      refine JA.takeP 5 rfl (by kernel_rfl) (NP.bl (NP.th (NP.th (NP.bl (NP.th NP.body))))) (by kernel_rfl) (by kernel_rfl) rfl (PO.move (v := .int .i64 ((j : Nat) : Int)) rfl) ?_
      refine JA.facts fun hst => ?_
      obtain ⟨hr_25, hr_25b, -⟩ := row_some 0 rfl (by omega) hst
      refine JA.takeP 6 rfl (by kernel_rfl) (NP.bl (NP.th (NP.th (NP.bl (NP.th NP.body))))) (by kernel_rfl) (by kernel_rfl) rfl (PO.indexAddrV (i := j) Tryz.underlying28 Tryz.sizeOf60 hr_25 hr_25b rfl rfl (by omega)) ?_
      refine JA.takeP 7 rfl (by kernel_rfl) (NP.bl (NP.th (NP.th (NP.bl (NP.th NP.body))))) (by kernel_rfl) (by kernel_rfl) rfl (PO.fieldAddrE fo60_1 hr_25 rfl) ?_
      refine JA.take 8 rfl (by kernel_rfl) (NP.bl (NP.th (NP.th (NP.bl (NP.th NP.body))))) (by kernel_rfl) (by kernel_rfl) (by kernel_rfl) rfl (LO.loadR1 0 (v := .slice ((d.l.getD j o0).x.a0) ((d.l.getD j o0).t.cells.length) ((d.l.getD j o0).x.c0)) rfl rfl Tryz.isAgg49 (mid_at encO_len rfl hyl 1 (by decide))) ?_
      refine JA.one (i := 9) (by kernel_rfl) ?_
      refine JX.op rfl rfl (JO.call [] Tryz.call74 rfl (C_cloneC (d.l.getD j o0).x.a0 ((d.l.getD j o0).x.c0) ((d.l.getD j o0).t.cells) (by omega)) rfl (fun w hw => hw.seeOut_ hs_23 (fun _ _ => List.not_mem_nil))) ?_
      rintro _ _ ⟨_, ⟨a_28, c_29, rfl, rfl⟩, rfl⟩
      refine ⟨by simp, ?_⟩
      refine JA.takeP 10 rfl (by kernel_rfl) (NP.bl (NP.th (NP.th (NP.bl (NP.th NP.body))))) (by kernel_rfl) (by kernel_rfl) rfl (PO.indexAddrV (i := j) Tryz.underlying28 Tryz.sizeOf60 hr_25 hr_25b rfl rfl (by omega)) ?_
      refine JA.takeP 11 rfl (by kernel_rfl) (NP.bl (NP.th (NP.th (NP.bl (NP.th NP.body))))) (by kernel_rfl) (by kernel_rfl) rfl (PO.fieldAddrE fo60_1 hr_25 rfl) ?_
      refine JA.one (i := 12) (by kernel_rfl) ?_
      refine JX.last rfl rfl (by decide) (by kernel_rfl) (JO.storeR 1 (vs := [.slice a_28 (((d.l.getD j o0).t.cells).length) c_29]) (cs' := mid encO y [.int .i64 ((d.l.getD j o0).t.seq), .slice a_28 (((d.l.getD j o0).t.cells).length) c_29, .bool ((d.l.getD j o0).t.whole)] (d.l.drop (j + 1))) rfl rfl rfl rfl Tryz.sizeOf49 rfl rfl (by decide) (mid_fit encO_len rfl hyl (f := 1) (lb rfl)) (mid_set encO_len rfl hyl 1 [.slice a_28 (((d.l.getD j o0).t.cells).length) c_29] (lb rfl))) ?_
      rintro _ _ rfl
      refine JQ.blockN ?_
      refine JQ.seq ?_
      refine JC.region ?_
      refine JL.pure rfl (PO.add (c := ((j + 1 : Nat) : Int)) he_20 rfl (wr (by omega))) ?_
      refine JL.pure rfl (PO.move (v := .int .i64 ((j + 1 : Nat) : Int)) rfl) ?_
      refine JL.nil ?_
      refine JQ.ghost (L' := [Res.rows (rdsO (⟨⟨a_28, c_29⟩, (d.l.getD j o0).t⟩ : OX)), Res.row (.slice a_12 d.l.length c_13) 60 3 d.l.length (mid encO y [.int .i64 ((d.l.getD j o0).t.seq), .slice a_28 (((d.l.getD j o0).t.cells).length) c_29, .bool ((d.l.getD j o0).t.whole)] (d.l.drop (j + 1))), Res.rows (y.flatMap rdsO), bk b_15 31 [.slice a_12 d.l.length c_13, str d.jt, .int .i64 d.js], bk b_4 31 [.slice none 0 0, str [], .int .i64 0], bk b_3 31 [.slice d.a d.l.length d.c, str d.jt, .int .i64 d.js]]) (fun w hw => hw.closeR (A := rdsO (⟨⟨a_28, c_29⟩, (d.l.getD j o0).t⟩ : OX)) [0] rfl) ?_
      refine JQ.ghost (L' := [Res.rows ((y ++ [(⟨⟨a_28, c_29⟩, (d.l.getD j o0).t⟩ : OX)]).flatMap rdsO), Res.row (.slice a_12 d.l.length c_13) 60 3 d.l.length (((y ++ [(⟨⟨a_28, c_29⟩, (d.l.getD j o0).t⟩ : OX)]) ++ d.l.drop (j + 1)).flatMap encO), bk b_15 31 [.slice a_12 d.l.length c_13, str d.jt, .int .i64 d.js], bk b_4 31 [.slice none 0 0, str [], .int .i64 0], bk b_3 31 [.slice d.a d.l.length d.c, str d.jt, .int .i64 d.js]]) (fun w hw => St.addR [2, 1] rfl flatMap_snoc (hw.unmid 1 rfl (q := (⟨⟨a_28, c_29⟩, (d.l.getD j o0).t⟩ : OX)) rfl)) ?_
      refine JQ.pick [0, 0, 0, 0, 0] (A := [Res.rows ((y ++ [(⟨⟨a_28, c_29⟩, (d.l.getD j o0).t⟩ : OX)]).flatMap rdsO), Res.row (.slice a_12 d.l.length c_13) 60 3 d.l.length (((y ++ [(⟨⟨a_28, c_29⟩, (d.l.getD j o0).t⟩ : OX)]) ++ d.l.drop (j + 1)).flatMap encO), bk b_15 31 [.slice a_12 d.l.length c_13, str d.jt, .int .i64 d.js], bk b_4 31 [.slice none 0 0, str [], .int .i64 0], bk b_3 31 [.slice d.a d.l.length d.c, str d.jt, .int .i64 d.js]]) rfl ?_
      refine JQ.again (d.l.length - (j + 1)) (by omega) ⟨j + 1, (y ++ [(⟨⟨a_28, c_29⟩, (d.l.getD j o0).t⟩ : OX)]), by omega, (map_take_succ o0 hd hlt rfl), (by rw [List.length_append, hyl]; rfl), he_17, he_18, he_19, rfl, rfl, rfl⟩
    · skip
      refine JC.condF (congrArg Value.bool (decide_eq_false h_21)) ?_
      refine JC.exit ?_
      refine JQ.thenExit ?_
      refine JQ.thenExit ?_
      refine JQ.blockE ?_
      refine JQ.seq ?_
      refine JC.seq ?_
      refine JC.region ?_
      refine JL.ld rfl (LO.loadK 2 (vs := [.slice a_12 d.l.length c_13, str d.jt, .int .i64 d.js]) rfl he_18 Tryz.isAgg31 Tryz.sizeOf31 rfl rfl) ?_
      refine JL.op rfl (JO.store 3 (vs := [.slice a_12 d.l.length c_13, str d.jt, .int .i64 d.js]) (cs' := [.slice a_12 d.l.length c_13, str d.jt, .int .i64 d.js]) rfl he_17 rfl rfl Tryz.sizeOf31 rfl rfl (Nat.le_of_ble_eq_true rfl) rfl) ?_
      rintro _ _ rfl
      refine JL.nil ?_
      refine JQ.seq ?_
      refine JC.ret ?_
      have hsl : d.l.length = y.length := by omega
      refine JQ.ghost (L' := [Res.rows (y.flatMap rdsO), Res.row (.slice a_12 y.length c_13) 60 3 y.length (y.flatMap encO), bk b_15 31 [.slice a_12 d.l.length c_13, str d.jt, .int .i64 d.js], bk b_4 31 [.slice a_12 d.l.length c_13, str d.jt, .int .i64 d.js], bk b_3 31 [.slice d.a d.l.length d.c, str d.jt, .int .i64 d.js]]) (fun w hw => hw.eqL (by rw [List.drop_of_length_le (by omega), List.append_nil, hsl] <;> rfl)) ?_
      refine JQ.ghost (L' := [Res.rows (rdsOS a_12 c_13 y), bk b_15 31 [.slice a_12 d.l.length c_13, str d.jt, .int .i64 d.js], bk b_4 31 [.slice a_12 d.l.length c_13, str d.jt, .int .i64 d.js], bk b_3 31 [.slice d.a d.l.length d.c, str d.jt, .int .i64 d.js]]) (fun w hw => hw.consR (r := ⟨.slice a_12 y.length c_13, 60, 3, y.length, y.flatMap encO⟩) (A := y.flatMap rdsO) [1, 0] rfl) ?_
      refine Done.one (.inl rfl) rfl (RV.cell1 (LO.loadK 2 (vs := [.slice a_12 d.l.length c_13, str d.jt, .int .i64 d.js]) rfl he_17 Tryz.isAgg31 Tryz.sizeOf31 rfl rfl) ⟨_, he_17⟩) (List.sublist_append_left [Res.rows (rdsOS a_12 c_13 y)] [bk b_15 31 [.slice a_12 d.l.length c_13, str d.jt, .int .i64 d.js], bk b_4 31 [.slice a_12 d.l.length c_13, str d.jt, .int .i64 d.js], bk b_3 31 [.slice d.a d.l.length d.c, str d.jt, .int .i64 d.js]]) ?_
      have hda := map_all hd (show d.l.length ≤ j by omega)
      exact ⟨⟨a_12, c_13, y, d.jt, d.js⟩, by simp only [DX.dat, hda], by rw [hsl], rfl⟩
  · skip
    refine JX.op rfl rfl (JO.alloc (z := .agg #[.slice none 0 0, str [], .int .i64 0]) (cs := [.slice none 0 0, str [], .int .i64 0]) Tryz.zeroValue31 rfl) ?_
    rintro _ _ ⟨b_30, rfl, rfl⟩
    refine ⟨by simp, ?_⟩
    refine JA.one (i := 2) (by kernel_rfl) ?_
    refine JX.op rfl rfl (JO.call [] Tryz.call109 rfl (Z_cloneO d.a d.c d.l (by omega)) rfl (fun w hw => hw.seeOut_ hs_1 (fun _ _ => List.not_mem_nil))) ?_
    rintro _ _ ⟨_, ⟨a_33, c_34, rfl, rfl⟩, rfl⟩
    refine ⟨by simp, ?_⟩
    refine JA.takeP 5 rfl (by kernel_rfl) (NP.th NP.body) (by kernel_rfl) (by kernel_rfl) rfl (PO.build (ps := [(0, .slice a_33 d.l.length c_34), (1, .agg #[str d.jt, .int .i64 d.js])]) (cs := [.slice a_33 d.l.length c_34, str d.jt, .int .i64 d.js]) rfl (by kernel_rfl)) ?_
    refine JA.one (i := 7) (by kernel_rfl) ?_
    refine JX.last rfl rfl (by decide) (by kernel_rfl) (JO.store 1 (vs := [.slice a_33 d.l.length c_34, str d.jt, .int .i64 d.js]) (cs' := [.slice a_33 d.l.length c_34, str d.jt, .int .i64 d.js]) rfl rfl rfl rfl Tryz.sizeOf31 rfl rfl (Nat.le_of_ble_eq_true rfl) rfl) ?_
    rintro _ _ rfl
    refine JQ.seq ?_
    refine JC.seq ?_
    refine JC.seq ?_
    refine JC.region ?_
    refine JL.pure rfl (PO.fieldAddr fo31_0 rfl) ?_
    refine JL.ld rfl (LO.load1 1 (v := .slice a_33 d.l.length c_34) rfl rfl Tryz.isAgg28 rfl) ?_
    refine JL.pure rfl (PO.lenV Tryz.underlying28 rfl) ?_
    refine JL.pure rfl (PO.move (v := .int .i64 0) rfl) ?_
    refine JL.nil ?_
    refine JQ.seq ?_
    refine JC.block ?_
    refine JC.ghost (L' := [Res.rows (([] : List OX).flatMap rdsO), Res.row (.slice a_33 d.l.length c_34) 60 3 d.l.length (d.l.flatMap encO), bk b_30 31 [.slice a_33 d.l.length c_34, str d.jt, .int .i64 d.js], bk b_4 31 [.slice none 0 0, str [], .int .i64 0], bk b_3 31 [.slice d.a d.l.length d.c, str d.jt, .int .i64 d.js]]) (fun w hw => hw.nilR (α := OX) (f := rdsO) [0] (B := [Res.row (.slice a_33 d.l.length c_34) 60 3 d.l.length (d.l.flatMap encO)]) (F := [bk b_30 31 [.slice a_33 d.l.length c_34, str d.jt, .int .i64 d.js], bk b_4 31 [.slice none 0 0, str [], .int .i64 0], bk b_3 31 [.slice d.a d.l.length d.c, str d.jt, .int .i64 d.js]]) rfl) ?_
    refine JC.loop (fun k_ e_ L_ => ∃ j : Nat, ∃ y : List OX, (j ≤ d.l.length) ∧ (y.map OX.t = (d.l.take j).map OX.t) ∧ (y.length = j) ∧ e_ 2 = .pointer (some ⟨b_4, 0, none⟩) ∧ e_ 3 = .pointer (some ⟨b_30, 0, none⟩) ∧ e_ 13 = .int .i64 ((d.l.length : Nat) : Int) ∧ e_ 14 = .int .i64 ((j : Nat) : Int) ∧ L_ = [Res.rows (y.flatMap rdsO), Res.row (.slice a_33 d.l.length c_34) 60 3 d.l.length ((y ++ d.l.drop j).flatMap encO), bk b_30 31 [.slice a_33 d.l.length c_34, str d.jt, .int .i64 d.js], bk b_4 31 [.slice none 0 0, str [], .int .i64 0], bk b_3 31 [.slice d.a d.l.length d.c, str d.jt, .int .i64 d.js]] ∧ k_ = d.l.length - j) _ ⟨0, [], by omega, rfl, rfl, rfl, rfl, rfl, rfl, rfl, rfl⟩ ?_
    rintro _ e_35 _ ⟨j, y, hj, hd, hyl, he_36, he_37, he_38, he_39, rfl, rfl⟩
    refine JC.seq ?_
    refine JC.region ?_
    refine JL.pure rfl (PO.lss he_39 he_38) ?_
    refine JL.nil ?_
    refine JQ.seq ?_
    refine JC.seq ?_
    by_cases h_40 : ((j : Nat) : Int) < ((d.l.length : Nat) : Int)
    · skip
      have hlt : j < d.l.length := by omega
      refine JC.ghost (L' := [Res.row (.slice a_33 d.l.length c_34) 60 3 d.l.length (mid encO y [.int .i64 ((d.l.getD j o0).t.seq), .slice ((d.l.getD j o0).x.a0) ((d.l.getD j o0).t.cells.length) ((d.l.getD j o0).x.c0), .bool ((d.l.getD j o0).t.whole)] (d.l.drop (j + 1))), Res.rows (y.flatMap rdsO), bk b_30 31 [.slice a_33 d.l.length c_34, str d.jt, .int .i64 d.js], bk b_4 31 [.slice none 0 0, str [], .int .i64 0], bk b_3 31 [.slice d.a d.l.length d.c, str d.jt, .int .i64 d.js]]) (fun w hw => hw.midR 1 rfl o0 hlt) ?_
      have hi_41 := SeesA.elem hi_2 o0 hlt
      have hs_42 := seesO hi_41
      obtain ⟨hb_43⟩ : (d.l.getD j o0).t.lim 1000000000 := (hlm.2 _ (getD_mem (show j < d.l.length by omega)))
      refine JC.condT (congrArg Value.bool (decide_eq_true h_40)) ?_
      refine JC.skip ?_
      refine JQ.seq ?_
      refine JC.seq ?_
      refine JC.block ?_
      refine JC.seq ?_
      refine JC.region ?_
      refine JL.pure rfl (PO.move (v := .int .i64 ((j : Nat) : Int)) he_39) ?_
      refine JL.pure rfl (PO.assign (v := .int .i64 ((j : Nat) : Int)) rfl) ?_
      refine JL.nil ?_
      refine JQ.seq ?_
      refine JC.regionA [Res.row (.slice a_33 d.l.length c_34) 60 3 d.l.length (mid encO y [.int .i64 ((d.l.getD j o0).t.seq), .slice ((d.l.getD j o0).x.a0) ((d.l.getD j o0).t.cells.length) ((d.l.getD j o0).x.c0), .bool ((d.l.getD j o0).t.whole)] (d.l.drop (j + 1))), Res.rows (y.flatMap rdsO), bk b_30 31 [.slice a_33 d.l.length c_34, str d.jt, .int .i64 d.js], bk b_4 31 [.slice none 0 0, str [], .int .i64 0], bk b_3 31 [.slice d.a d.l.length d.c, str d.jt, .int .i64 d.js]] 10 mixed (by simp) ?_
      refine JA.takeP 0 rfl (by kernel_rfl) (NP.bl (NP.th (NP.th (NP.bl (NP.th NP.body))))) (by kernel_rfl) (by kernel_rfl) rfl (PO.fieldAddr fo31_0 he_37) ?_
      refine JA.take 1 rfl (by kernel_rfl) (NP.bl (NP.th (NP.th (NP.bl (NP.th NP.body))))) (by kernel_rfl) (by kernel_rfl) (by kernel_rfl) rfl (LO.load1 2 (v := .slice a_33 d.l.length c_34) rfl rfl Tryz.isAgg28 rfl) ?_
      refine JA.takeP 2 rfl (by kernel_rfl) (NP.bl (NP.th (NP.th (NP.bl (NP.th NP.body))))) (by kernel_rfl) (by kernel_rfl) rfl (PO.move (v := .int .i64 ((j : Nat) : Int)) rfl) ?_
      refine JA.takeP 3 rfl (by kernel_rfl) (NP.bl (NP.th (NP.th (NP.bl (NP.th NP.body))))) (by kernel_rfl) (by kernel_rfl) rfl (PO.fieldAddr fo31_0 he_37) ?_
      refine JA.take 4 rfl (by kernel_rfl) (NP.bl (NP.th (NP.th (NP.bl (NP.th NP.body))))) (by kernel_rfl) (by kernel_rfl) (by kernel_rfl) rfl (LO.load1 2 (v := .slice a_33 d.l.length c_34) rfl rfl Tryz.isAgg28 rfl) ?_
      refine JA.takeP 5 rfl (by kernel_rfl) (NP.bl (NP.th (NP.th (NP.bl (NP.th NP.body))))) (by kernel_rfl) (by kernel_rfl) rfl (PO.move (v := .int .i64 ((j : Nat) : Int)) rfl) ?_
      refine JA.facts fun hst => ?_
      obtain ⟨hr_44, hr_44b, -⟩ := row_some 0 rfl (by omega) hst
      refine JA.takeP 6 rfl (by kernel_rfl) (NP.bl (NP.th (NP.th (NP.bl (NP.th NP.body))))) (by kernel_rfl) (by kernel_rfl) rfl (PO.indexAddrV (i := j) Tryz.underlying28 Tryz.sizeOf60 hr_44 hr_44b rfl rfl (by omega)) ?_
      refine JA.takeP 7 rfl (by kernel_rfl) (NP.bl (NP.th (NP.th (NP.bl (NP.th NP.body))))) (by kernel_rfl) (by kernel_rfl) rfl (PO.fieldAddrE fo60_1 hr_44 rfl) ?_
      refine JA.take 8 rfl (by kernel_rfl) (NP.bl (NP.th (NP.th (NP.bl (NP.th NP.body))))) (by kernel_rfl) (by kernel_rfl) (by kernel_rfl) rfl (LO.loadR1 0 (v := .slice ((d.l.getD j o0).x.a0) ((d.l.getD j o0).t.cells.length) ((d.l.getD j o0).x.c0)) rfl rfl Tryz.isAgg49 (mid_at encO_len rfl hyl 1 (by decide))) ?_
      refine JA.one (i := 9) (by kernel_rfl) ?_
      refine JX.op rfl rfl (JO.call [] Tryz.call74 rfl (C_cloneC (d.l.getD j o0).x.a0 ((d.l.getD j o0).x.c0) ((d.l.getD j o0).t.cells) (by omega)) rfl (fun w hw => hw.seeOut_ hs_42 (fun _ _ => List.not_mem_nil))) ?_
      rintro _ _ ⟨_, ⟨a_47, c_48, rfl, rfl⟩, rfl⟩
      refine ⟨by simp, ?_⟩
      refine JA.takeP 10 rfl (by kernel_rfl) (NP.bl (NP.th (NP.th (NP.bl (NP.th NP.body))))) (by kernel_rfl) (by kernel_rfl) rfl (PO.indexAddrV (i := j) Tryz.underlying28 Tryz.sizeOf60 hr_44 hr_44b rfl rfl (by omega)) ?_
      refine JA.takeP 11 rfl (by kernel_rfl) (NP.bl (NP.th (NP.th (NP.bl (NP.th NP.body))))) (by kernel_rfl) (by kernel_rfl) rfl (PO.fieldAddrE fo60_1 hr_44 rfl) ?_
      refine JA.one (i := 12) (by kernel_rfl) ?_
      refine JX.last rfl rfl (by decide) (by kernel_rfl) (JO.storeR 1 (vs := [.slice a_47 (((d.l.getD j o0).t.cells).length) c_48]) (cs' := mid encO y [.int .i64 ((d.l.getD j o0).t.seq), .slice a_47 (((d.l.getD j o0).t.cells).length) c_48, .bool ((d.l.getD j o0).t.whole)] (d.l.drop (j + 1))) rfl rfl rfl rfl Tryz.sizeOf49 rfl rfl (by decide) (mid_fit encO_len rfl hyl (f := 1) (lb rfl)) (mid_set encO_len rfl hyl 1 [.slice a_47 (((d.l.getD j o0).t.cells).length) c_48] (lb rfl))) ?_
      rintro _ _ rfl
      refine JQ.blockN ?_
      refine JQ.seq ?_
      refine JC.region ?_
      refine JL.pure rfl (PO.add (c := ((j + 1 : Nat) : Int)) he_39 rfl (wr (by omega))) ?_
      refine JL.pure rfl (PO.move (v := .int .i64 ((j + 1 : Nat) : Int)) rfl) ?_
      refine JL.nil ?_
      refine JQ.ghost (L' := [Res.rows (rdsO (⟨⟨a_47, c_48⟩, (d.l.getD j o0).t⟩ : OX)), Res.row (.slice a_33 d.l.length c_34) 60 3 d.l.length (mid encO y [.int .i64 ((d.l.getD j o0).t.seq), .slice a_47 (((d.l.getD j o0).t.cells).length) c_48, .bool ((d.l.getD j o0).t.whole)] (d.l.drop (j + 1))), Res.rows (y.flatMap rdsO), bk b_30 31 [.slice a_33 d.l.length c_34, str d.jt, .int .i64 d.js], bk b_4 31 [.slice none 0 0, str [], .int .i64 0], bk b_3 31 [.slice d.a d.l.length d.c, str d.jt, .int .i64 d.js]]) (fun w hw => hw.closeR (A := rdsO (⟨⟨a_47, c_48⟩, (d.l.getD j o0).t⟩ : OX)) [0] rfl) ?_
      refine JQ.ghost (L' := [Res.rows ((y ++ [(⟨⟨a_47, c_48⟩, (d.l.getD j o0).t⟩ : OX)]).flatMap rdsO), Res.row (.slice a_33 d.l.length c_34) 60 3 d.l.length (((y ++ [(⟨⟨a_47, c_48⟩, (d.l.getD j o0).t⟩ : OX)]) ++ d.l.drop (j + 1)).flatMap encO), bk b_30 31 [.slice a_33 d.l.length c_34, str d.jt, .int .i64 d.js], bk b_4 31 [.slice none 0 0, str [], .int .i64 0], bk b_3 31 [.slice d.a d.l.length d.c, str d.jt, .int .i64 d.js]]) (fun w hw => St.addR [2, 1] rfl flatMap_snoc (hw.unmid 1 rfl (q := (⟨⟨a_47, c_48⟩, (d.l.getD j o0).t⟩ : OX)) rfl)) ?_
      refine JQ.pick [0, 0, 0, 0, 0] (A := [Res.rows ((y ++ [(⟨⟨a_47, c_48⟩, (d.l.getD j o0).t⟩ : OX)]).flatMap rdsO), Res.row (.slice a_33 d.l.length c_34) 60 3 d.l.length (((y ++ [(⟨⟨a_47, c_48⟩, (d.l.getD j o0).t⟩ : OX)]) ++ d.l.drop (j + 1)).flatMap encO), bk b_30 31 [.slice a_33 d.l.length c_34, str d.jt, .int .i64 d.js], bk b_4 31 [.slice none 0 0, str [], .int .i64 0], bk b_3 31 [.slice d.a d.l.length d.c, str d.jt, .int .i64 d.js]]) rfl ?_
      refine JQ.again (d.l.length - (j + 1)) (by omega) ⟨j + 1, (y ++ [(⟨⟨a_47, c_48⟩, (d.l.getD j o0).t⟩ : OX)]), by omega, (map_take_succ o0 hd hlt rfl), (by rw [List.length_append, hyl]; rfl), he_36, he_37, he_38, rfl, rfl, rfl⟩
    · skip
      refine JC.condF (congrArg Value.bool (decide_eq_false h_40)) ?_
      refine JC.exit ?_
      refine JQ.thenExit ?_
      refine JQ.thenExit ?_
      refine JQ.blockE ?_
      refine JQ.seq ?_
      refine JC.seq ?_
      refine JC.region ?_
      refine JL.ld rfl (LO.loadK 2 (vs := [.slice a_33 d.l.length c_34, str d.jt, .int .i64 d.js]) rfl he_37 Tryz.isAgg31 Tryz.sizeOf31 rfl rfl) ?_
      refine JL.op rfl (JO.store 3 (vs := [.slice a_33 d.l.length c_34, str d.jt, .int .i64 d.js]) (cs' := [.slice a_33 d.l.length c_34, str d.jt, .int .i64 d.js]) rfl he_36 rfl rfl Tryz.sizeOf31 rfl rfl (Nat.le_of_ble_eq_true rfl) rfl) ?_
      rintro _ _ rfl
      refine JL.nil ?_
      refine JQ.seq ?_
      refine JC.ret ?_
      have hsl : d.l.length = y.length := by omega
      refine JQ.ghost (L' := [Res.rows (y.flatMap rdsO), Res.row (.slice a_33 y.length c_34) 60 3 y.length (y.flatMap encO), bk b_30 31 [.slice a_33 d.l.length c_34, str d.jt, .int .i64 d.js], bk b_4 31 [.slice a_33 d.l.length c_34, str d.jt, .int .i64 d.js], bk b_3 31 [.slice d.a d.l.length d.c, str d.jt, .int .i64 d.js]]) (fun w hw => hw.eqL (by rw [List.drop_of_length_le (by omega), List.append_nil, hsl] <;> rfl)) ?_
      refine JQ.ghost (L' := [Res.rows (rdsOS a_33 c_34 y), bk b_30 31 [.slice a_33 d.l.length c_34, str d.jt, .int .i64 d.js], bk b_4 31 [.slice a_33 d.l.length c_34, str d.jt, .int .i64 d.js], bk b_3 31 [.slice d.a d.l.length d.c, str d.jt, .int .i64 d.js]]) (fun w hw => hw.consR (r := ⟨.slice a_33 y.length c_34, 60, 3, y.length, y.flatMap encO⟩) (A := y.flatMap rdsO) [1, 0] rfl) ?_
      refine Done.one (.inl rfl) rfl (RV.cell1 (LO.loadK 2 (vs := [.slice a_33 d.l.length c_34, str d.jt, .int .i64 d.js]) rfl he_36 Tryz.isAgg31 Tryz.sizeOf31 rfl rfl) ⟨_, he_36⟩) (List.sublist_append_left [Res.rows (rdsOS a_33 c_34 y)] [bk b_30 31 [.slice a_33 d.l.length c_34, str d.jt, .int .i64 d.js], bk b_4 31 [.slice a_33 d.l.length c_34, str d.jt, .int .i64 d.js], bk b_3 31 [.slice d.a d.l.length d.c, str d.jt, .int .i64 d.js]]) ?_
      have hda := map_all hd (show d.l.length ≤ j by omega)
      exact ⟨⟨a_33, c_34, y, d.jt, d.js⟩, by simp only [DX.dat, hda], by rw [hsl], rfl⟩

set_option maxRecDepth 4000 in
set_option maxHeartbeats 1000000 in
theorem Z_specl23Copy (d : DX) (hl : d.dat.lim 1000000000) :
    Ct Tryz.prog 56 [.agg #[.slice d.a d.l.length d.c, str d.jt, .int .i64 d.js]] [] (fun w => SeesA w (rdsD d)) (fun v A' => ∃ y : DX, y.dat = d.dat ∧ v = .agg #[.slice y.a y.l.length y.c, str y.jt, .int .i64 y.js] ∧ A' = [.rows (rdsD y)]) := by
  refine Ct.intro Tryz.func56 rfl Tryz.ntmps56 (Nat.le_of_ble_eq_true rfl) fun w0 hpre => ?_
  have hs_1 : Sees w0 (.slice d.a d.l.length d.c) 3 d.l.length (d.l.flatMap encO) := (hpre).head
  have hi_2 : SeesA w0 (d.l.flatMap rdsO) := (hpre).tail
  have hlm : d.l.length ≤ 1000000000 ∧ ∀ q ∈ d.l, q.t.lim 1000000000 := ⟨by have := hl.l0; simpa only [DX.dat, List.length_map] using this, fun q hq => hl.l1 _ (List.mem_map_of_mem hq)⟩
  have hlm0 := hlm.1
  refine JC.seq ?_
  refine JC.region ?_
  refine JL.op rfl (JO.box (cs := [.slice d.a d.l.length d.c, str d.jt, .int .i64 d.js]) rfl rfl) ?_
  rintro _ _ ⟨b_3, rfl, rfl⟩
  refine JL.op rfl (JO.alloc (z := .agg #[.slice none 0 0, str [], .int .i64 0]) (cs := [.slice none 0 0, str [], .int .i64 0]) Tryz.zeroValue31 rfl) ?_
  rintro _ _ ⟨b_4, rfl, rfl⟩
  refine JL.nil ?_
  refine JQ.seq ?_
  refine JC.seq ?_
  refine JC.region ?_
  refine JL.pure rfl (PO.fieldAddr fo31_1 rfl) ?_
  refine JL.ld rfl (LO.loadK 1 (vs := [str d.jt, .int .i64 d.js]) rfl rfl Tryz.isAgg29 Tryz.sizeOf29 rfl rfl) ?_
  refine JL.pure rfl (PO.build (ps := [(1, .agg #[str d.jt, .int .i64 d.js])]) (cs := [.slice none 0 0, str d.jt, .int .i64 d.js]) rfl (by kernel_rfl)) ?_
  refine JL.op rfl (JO.alloc (z := .agg #[.slice none 0 0, str [], .int .i64 0]) (cs := [.slice none 0 0, str [], .int .i64 0]) Tryz.zeroValue31 rfl) ?_
  rintro _ _ ⟨b_5, rfl, rfl⟩
  refine JL.op rfl (JO.store 0 (vs := [.slice none 0 0, str d.jt, .int .i64 d.js]) (cs' := [.slice none 0 0, str d.jt, .int .i64 d.js]) rfl rfl rfl rfl Tryz.sizeOf31 rfl rfl (Nat.le_of_ble_eq_true rfl) rfl) ?_
  rintro _ _ rfl
  refine JL.nil ?_
  refine JQ.seq ?_
  refine JC.seq ?_
  refine JC.seq ?_
  refine JC.region ?_
  refine JL.pure rfl (PO.assign (v := .int .i64 0) rfl) ?_
  refine JL.nil ?_
  refine JQ.seq ?_
  refine JC.block ?_
  refine JC.nilRow 60 3 ?_
  refine JC.ghost (L' := [Res.rows (([] : List OX).flatMap rdsO), Res.row (.slice none 0 0) 60 3 0 (([] : List OX).flatMap encO), bk b_5 31 [.slice none 0 0, str d.jt, .int .i64 d.js], bk b_4 31 [.slice none 0 0, str [], .int .i64 0], bk b_3 31 [.slice d.a d.l.length d.c, str d.jt, .int .i64 d.js]]) (fun w hw => hw.nilR (α := OX) (f := rdsO) [0, 0] (B := [Res.row (.slice none 0 0) 60 3 0 (([] : List OX).flatMap encO), bk b_5 31 [.slice none 0 0, str d.jt, .int .i64 d.js]]) (F := [bk b_4 31 [.slice none 0 0, str [], .int .i64 0], bk b_3 31 [.slice d.a d.l.length d.c, str d.jt, .int .i64 d.js]]) rfl) ?_
  refine JC.loop (fun k_ e_ L_ => ∃ j : Nat, ∃ ya : Option Addr, ∃ yc : Nat, ∃ y : List OX, (j ≤ d.l.length) ∧ (y.map OX.t = (d.l.take j).map OX.t) ∧ (y.length = j) ∧ e_ 1 = .pointer (some ⟨b_3, 0, none⟩) ∧ e_ 2 = .pointer (some ⟨b_4, 0, none⟩) ∧ e_ 3 = .pointer (some ⟨b_5, 0, none⟩) ∧ e_ 4 = .int .i64 ((j : Nat) : Int) ∧ L_ = [Res.rows (y.flatMap rdsO), Res.row (.slice ya y.length yc) 60 3 y.length (y.flatMap encO), bk b_5 31 [.slice ya y.length yc, str d.jt, .int .i64 d.js], bk b_4 31 [.slice none 0 0, str [], .int .i64 0], bk b_3 31 [.slice d.a d.l.length d.c, str d.jt, .int .i64 d.js]] ∧ k_ = d.l.length - j) _ ⟨0, none, 0, [], by omega, rfl, rfl, rfl, rfl, rfl, rfl, rfl, rfl⟩ ?_
  rintro _ e_6 _ ⟨j, ya, yc, y, hj, hd, hyl, he_7, he_8, he_9, he_10, rfl, rfl⟩
  refine JC.seq ?_
  refine JC.seq ?_
  refine JC.region ?_
  refine JL.pure rfl (PO.move (v := .int .i64 ((j : Nat) : Int)) he_10) ?_
  refine JL.pure rfl (PO.fieldAddr fo31_0 he_7) ?_
  refine JL.ld rfl (LO.load1 4 (v := .slice d.a d.l.length d.c) rfl rfl Tryz.isAgg28 rfl) ?_
  refine JL.pure rfl (PO.lenV Tryz.underlying28 rfl) ?_
  refine JL.pure rfl (PO.lss rfl rfl) ?_
  refine JL.nil ?_
  refine JQ.seq ?_
  by_cases h_11 : ((j : Nat) : Int) < ((d.l.length : Nat) : Int)
  · skip
    have hlt : j < d.l.length := by omega
    have hb9 : (d.l.getD j o0).t.cells.length ≤ 1000000000 := (hlm.2 _ (getD_mem hlt)).l0
    refine JC.condT (congrArg Value.bool (decide_eq_true h_11)) ?_
    refine JC.skip ?_
    refine JQ.seq ?_
    refine JC.seq ?_
    refine JC.block ?_
    refine JC.seq ?_
    refine JC.region ?_
    refine JL.pure rfl (PO.fieldAddr fo31_0 he_7) ?_
    refine JL.ld rfl (LO.load1 4 (v := .slice d.a d.l.length d.c) rfl rfl Tryz.isAgg28 rfl) ?_
    refine JL.pure rfl (PO.move (v := .int .i64 ((j : Nat) : Int)) he_10) ?_
    obtain ⟨hr_12, hr_12b, -⟩ := sees_some hs_1 (by omega)
    refine JL.pure rfl (PO.indexAddrV (i := j) Tryz.underlying28 Tryz.sizeOf60 hr_12 hr_12b rfl rfl (by omega)) ?_
    have hi_13 := SeesA.elem hi_2 o0 (show j < d.l.length by omega)
    have hs_14 := seesO hi_13
    refine JL.ld rfl (LO.loadSK (vs := [.int .i64 ((d.l.getD j o0).t.seq), .slice ((d.l.getD j o0).x.a0) ((d.l.getD j o0).t.cells.length) ((d.l.getD j o0).x.c0), .bool ((d.l.getD j o0).t.whole)]) hs_1 (fun _ _ => List.not_mem_nil) rfl Tryz.isAgg60 Tryz.sizeOf60 (flat_take encO_len o0 d.l j (by omega)) rfl (by decide)) ?_
    refine JL.op rfl (JO.alloc (z := .agg #[.int .i64 0, .slice none 0 0, .bool false]) (cs := [.int .i64 0, .slice none 0 0, .bool false]) Tryz.zeroValue60 rfl) ?_
    rintro _ _ ⟨b_15, rfl, rfl⟩
    refine JL.op rfl (JO.store 0 (vs := [.int .i64 ((d.l.getD j o0).t.seq), .slice ((d.l.getD j o0).x.a0) ((d.l.getD j o0).t.cells.length) ((d.l.getD j o0).x.c0), .bool ((d.l.getD j o0).t.whole)]) (cs' := [.int .i64 ((d.l.getD j o0).t.seq), .slice ((d.l.getD j o0).x.a0) ((d.l.getD j o0).t.cells.length) ((d.l.getD j o0).x.c0), .bool ((d.l.getD j o0).t.whole)]) rfl rfl rfl rfl Tryz.sizeOf60 rfl rfl (Nat.le_of_ble_eq_true rfl) rfl) ?_
    rintro _ _ rfl
    refine JL.nil ?_
    refine JQ.seq ?_
    refine JC.seq ?_
    refine JC.region ?_
    refine JL.op rfl (JO.buildSlice (ps := []) (cur := #[]) Tryz.underlying49 Tryz.sizeOf48 Tryz.zeroValue48 rfl (by kernel_rfl) (by decide) (by decide)) ?_
    rintro _ _ ⟨a_16, rfl, rfl⟩
    refine JL.pure rfl (PO.fieldAddr fo60_1 rfl) ?_
    refine JL.ld rfl (LO.load1 1 (v := .slice ((d.l.getD j o0).x.a0) ((d.l.getD j o0).t.cells.length) ((d.l.getD j o0).x.c0)) rfl rfl Tryz.isAgg49 rfl) ?_
    refine JL.op rfl (JO.append' 0 (q := ((d.l.getD j o0).t.cells.length)) (news := ((d.l.getD j o0).t.cells).flatMap encC) (n' := ((d.l.getD j o0).t.cells).length) (cs' := ((d.l.getD j o0).t.cells).flatMap encC) rfl Tryz.underlying49 Tryz.underlying49 Tryz.typeInfo48 rfl (by' := 32) rfl rfl rfl rfl rfl (fun w hw => Src.sees (hw.seeOut_ hs_14 (fun _ _ => List.not_mem_nil)) (oneC _)) (by (try simp only [List.length_append, List.length_cons, List.length_nil, List.length_take, List.length_drop]); omega) (by (try simp only [List.length_append, List.length_cons, List.length_nil, List.length_take, List.length_drop]); omega) (by (try simp only [List.length_take, List.length_drop]); first | rfl | omega) rfl) ?_
    rintro _ _ ⟨a_17, c_18, rfl, rfl⟩
    refine JL.pure rfl (PO.fieldAddr fo60_1 rfl) ?_
    refine JL.op rfl (JO.store 1 (vs := [.slice a_17 (((d.l.getD j o0).t.cells).length) c_18]) (cs' := [.int .i64 ((d.l.getD j o0).t.seq), .slice a_17 (((d.l.getD j o0).t.cells).length) c_18, .bool ((d.l.getD j o0).t.whole)]) rfl rfl rfl rfl Tryz.sizeOf49 rfl rfl (Nat.le_of_ble_eq_true rfl) rfl) ?_
    rintro _ _ rfl
    refine JL.nil ?_
    refine JQ.seq ?_
    refine JC.region ?_
    refine JL.pure rfl (PO.fieldAddr fo31_0 he_9) ?_
    refine JL.ld rfl (LO.load1 4 (v := .slice ya y.length yc) rfl rfl Tryz.isAgg28 rfl) ?_
    refine JL.ld rfl (LO.loadK 1 (vs := [.int .i64 ((d.l.getD j o0).t.seq), .slice a_17 (((d.l.getD j o0).t.cells).length) c_18, .bool ((d.l.getD j o0).t.whole)]) rfl rfl Tryz.isAgg60 Tryz.sizeOf60 rfl rfl) ?_
    refine JL.op rfl (JO.buildSlice (ps := [(0, .agg #[.int .i64 ((d.l.getD j o0).t.seq), .slice a_17 (((d.l.getD j o0).t.cells).length) c_18, .bool ((d.l.getD j o0).t.whole)])]) (cur := #[.int .i64 ((d.l.getD j o0).t.seq), .slice a_17 (((d.l.getD j o0).t.cells).length) c_18, .bool ((d.l.getD j o0).t.whole)]) Tryz.underlying28 Tryz.sizeOf60 Tryz.zeroValue60 rfl (by kernel_rfl) (by decide) (by decide)) ?_
    rintro _ _ ⟨a_19, rfl, rfl⟩
    refine JL.op rfl (JO.append' 4 (q := 1) (news := ([(⟨⟨a_17, c_18⟩, ⟨(d.l.getD j o0).t.seq, (d.l.getD j o0).t.cells, (d.l.getD j o0).t.whole⟩⟩ : OX)] : List OX).flatMap encO) (n' := (y ++ ([(⟨⟨a_17, c_18⟩, ⟨(d.l.getD j o0).t.seq, (d.l.getD j o0).t.cells, (d.l.getD j o0).t.whole⟩⟩ : OX)] : List OX)).length) (cs' := (y ++ ([(⟨⟨a_17, c_18⟩, ⟨(d.l.getD j o0).t.seq, (d.l.getD j o0).t.cells, (d.l.getD j o0).t.whole⟩⟩ : OX)] : List OX)).flatMap encO) rfl Tryz.underlying28 Tryz.underlying28 Tryz.typeInfo60 rfl (by' := 40) rfl rfl rfl rfl rfl (fun w hw => Src.sees (hw.see (i := 0) rfl) (oneO _)) (by (try simp only [List.length_append, List.length_cons, List.length_nil, List.length_take, List.length_drop]); omega) (by (try simp only [List.length_append, List.length_cons, List.length_nil, List.length_take, List.length_drop]); omega) (by simp only [List.length_append, List.length_take, List.length_drop, List.length_cons, List.length_nil] <;> first | rfl | omega) (by simp only [List.flatMap_append])) ?_
    rintro _ _ ⟨a_20, c_21, rfl, rfl⟩
    refine JL.pure rfl (PO.fieldAddr fo31_0 he_9) ?_
    refine JL.op rfl (JO.store 5 (vs := [.slice a_20 ((y ++ ([(⟨⟨a_17, c_18⟩, ⟨(d.l.getD j o0).t.seq, (d.l.getD j o0).t.cells, (d.l.getD j o0).t.whole⟩⟩ : OX)] : List OX)).length) c_21]) (cs' := [.slice a_20 ((y ++ ([(⟨⟨a_17, c_18⟩, ⟨(d.l.getD j o0).t.seq, (d.l.getD j o0).t.cells, (d.l.getD j o0).t.whole⟩⟩ : OX)] : List OX)).length) c_21, str d.jt, .int .i64 d.js]) rfl rfl rfl rfl Tryz.sizeOf28 rfl rfl (Nat.le_of_ble_eq_true rfl) rfl) ?_
    rintro _ _ rfl
    refine JL.nil ?_
    refine JQ.blockN ?_
    refine JQ.seq ?_
    refine JC.region ?_
    refine JL.pure rfl (PO.move (v := .int .i64 ((j : Nat) : Int)) he_10) ?_
    refine JL.pure rfl (PO.add (c := ((j + 1 : Nat) : Int)) rfl rfl (wr (by omega))) ?_
    refine JL.pure rfl (PO.assign (v := .int .i64 ((j + 1 : Nat) : Int)) rfl) ?_
    refine JL.nil ?_
    refine JQ.ghost (L' := [Res.rows (rdsO (⟨⟨a_17, c_18⟩, ⟨(d.l.getD j o0).t.seq, (d.l.getD j o0).t.cells, (d.l.getD j o0).t.whole⟩⟩ : OX)), Res.row (.slice a_19 1 1) 60 3 1 (([(⟨⟨a_17, c_18⟩, ⟨(d.l.getD j o0).t.seq, (d.l.getD j o0).t.cells, (d.l.getD j o0).t.whole⟩⟩ : OX)] : List OX).flatMap encO), bk b_15 60 [.int .i64 ((d.l.getD j o0).t.seq), .slice a_17 (((d.l.getD j o0).t.cells).length) c_18, .bool ((d.l.getD j o0).t.whole)], Res.rows (y.flatMap rdsO), Res.row (.slice a_20 ((y ++ ([(⟨⟨a_17, c_18⟩, ⟨(d.l.getD j o0).t.seq, (d.l.getD j o0).t.cells, (d.l.getD j o0).t.whole⟩⟩ : OX)] : List OX)).length) c_21) 60 3 ((y ++ ([(⟨⟨a_17, c_18⟩, ⟨(d.l.getD j o0).t.seq, (d.l.getD j o0).t.cells, (d.l.getD j o0).t.whole⟩⟩ : OX)] : List OX)).length) ((y ++ ([(⟨⟨a_17, c_18⟩, ⟨(d.l.getD j o0).t.seq, (d.l.getD j o0).t.cells, (d.l.getD j o0).t.whole⟩⟩ : OX)] : List OX)).flatMap encO), bk b_5 31 [.slice a_20 ((y ++ ([(⟨⟨a_17, c_18⟩, ⟨(d.l.getD j o0).t.seq, (d.l.getD j o0).t.cells, (d.l.getD j o0).t.whole⟩⟩ : OX)] : List OX)).length) c_21, str d.jt, .int .i64 d.js], bk b_4 31 [.slice none 0 0, str [], .int .i64 0], bk b_3 31 [.slice d.a d.l.length d.c, str d.jt, .int .i64 d.js]]) (fun w hw => hw.closeR (A := rdsO (⟨⟨a_17, c_18⟩, ⟨(d.l.getD j o0).t.seq, (d.l.getD j o0).t.cells, (d.l.getD j o0).t.whole⟩⟩ : OX)) [1] rfl) ?_
    refine JQ.ghost (L' := [Res.rows ((y ++ [(⟨⟨a_17, c_18⟩, ⟨(d.l.getD j o0).t.seq, (d.l.getD j o0).t.cells, (d.l.getD j o0).t.whole⟩⟩ : OX)]).flatMap rdsO), Res.row (.slice a_19 1 1) 60 3 1 (([(⟨⟨a_17, c_18⟩, ⟨(d.l.getD j o0).t.seq, (d.l.getD j o0).t.cells, (d.l.getD j o0).t.whole⟩⟩ : OX)] : List OX).flatMap encO), bk b_15 60 [.int .i64 ((d.l.getD j o0).t.seq), .slice a_17 (((d.l.getD j o0).t.cells).length) c_18, .bool ((d.l.getD j o0).t.whole)], Res.row (.slice a_20 ((y ++ ([(⟨⟨a_17, c_18⟩, ⟨(d.l.getD j o0).t.seq, (d.l.getD j o0).t.cells, (d.l.getD j o0).t.whole⟩⟩ : OX)] : List OX)).length) c_21) 60 3 ((y ++ ([(⟨⟨a_17, c_18⟩, ⟨(d.l.getD j o0).t.seq, (d.l.getD j o0).t.cells, (d.l.getD j o0).t.whole⟩⟩ : OX)] : List OX)).length) ((y ++ ([(⟨⟨a_17, c_18⟩, ⟨(d.l.getD j o0).t.seq, (d.l.getD j o0).t.cells, (d.l.getD j o0).t.whole⟩⟩ : OX)] : List OX)).flatMap encO), bk b_5 31 [.slice a_20 ((y ++ ([(⟨⟨a_17, c_18⟩, ⟨(d.l.getD j o0).t.seq, (d.l.getD j o0).t.cells, (d.l.getD j o0).t.whole⟩⟩ : OX)] : List OX)).length) c_21, str d.jt, .int .i64 d.js], bk b_4 31 [.slice none 0 0, str [], .int .i64 0], bk b_3 31 [.slice d.a d.l.length d.c, str d.jt, .int .i64 d.js]]) (fun w hw => hw.addR [3, 0] rfl flatMap_snoc) ?_
    refine JQ.pick [0, 2, 2, 2, 2] (A := [Res.rows ((y ++ [(⟨⟨a_17, c_18⟩, ⟨(d.l.getD j o0).t.seq, (d.l.getD j o0).t.cells, (d.l.getD j o0).t.whole⟩⟩ : OX)]).flatMap rdsO), Res.row (.slice a_20 ((y ++ ([(⟨⟨a_17, c_18⟩, ⟨(d.l.getD j o0).t.seq, (d.l.getD j o0).t.cells, (d.l.getD j o0).t.whole⟩⟩ : OX)] : List OX)).length) c_21) 60 3 ((y ++ [(⟨⟨a_17, c_18⟩, ⟨(d.l.getD j o0).t.seq, (d.l.getD j o0).t.cells, (d.l.getD j o0).t.whole⟩⟩ : OX)]).length) ((y ++ [(⟨⟨a_17, c_18⟩, ⟨(d.l.getD j o0).t.seq, (d.l.getD j o0).t.cells, (d.l.getD j o0).t.whole⟩⟩ : OX)]).flatMap encO), bk b_5 31 [.slice a_20 ((y ++ ([(⟨⟨a_17, c_18⟩, ⟨(d.l.getD j o0).t.seq, (d.l.getD j o0).t.cells, (d.l.getD j o0).t.whole⟩⟩ : OX)] : List OX)).length) c_21, str d.jt, .int .i64 d.js], bk b_4 31 [.slice none 0 0, str [], .int .i64 0], bk b_3 31 [.slice d.a d.l.length d.c, str d.jt, .int .i64 d.js]]) rfl ?_
    refine JQ.again (d.l.length - (j + 1)) (by omega) ⟨j + 1, a_20, c_21, (y ++ [(⟨⟨a_17, c_18⟩, ⟨(d.l.getD j o0).t.seq, (d.l.getD j o0).t.cells, (d.l.getD j o0).t.whole⟩⟩ : OX)]), by omega, (map_take_succ o0 hd hlt rfl), (by rw [List.length_append, hyl]; rfl), he_7, he_8, he_9, rfl, rfl, rfl⟩
  · skip
    refine JC.condF (congrArg Value.bool (decide_eq_false h_11)) ?_
    refine JC.exit ?_
    refine JQ.thenExit ?_
    refine JQ.thenExit ?_
    refine JQ.blockE ?_
    refine JQ.seq ?_
    refine JC.seq ?_
    refine JC.region ?_
    refine JL.ld rfl (LO.loadK 2 (vs := [.slice ya y.length yc, str d.jt, .int .i64 d.js]) rfl he_9 Tryz.isAgg31 Tryz.sizeOf31 rfl rfl) ?_
    refine JL.op rfl (JO.store 3 (vs := [.slice ya y.length yc, str d.jt, .int .i64 d.js]) (cs' := [.slice ya y.length yc, str d.jt, .int .i64 d.js]) rfl he_8 rfl rfl Tryz.sizeOf31 rfl rfl (Nat.le_of_ble_eq_true rfl) rfl) ?_
    rintro _ _ rfl
    refine JL.nil ?_
    refine JQ.seq ?_
    refine JC.ret ?_
    refine JQ.ghost (L' := [Res.rows (rdsOS ya yc y), bk b_5 31 [.slice ya y.length yc, str d.jt, .int .i64 d.js], bk b_4 31 [.slice ya y.length yc, str d.jt, .int .i64 d.js], bk b_3 31 [.slice d.a d.l.length d.c, str d.jt, .int .i64 d.js]]) (fun w hw => hw.consR (r := ⟨.slice ya y.length yc, 60, 3, y.length, y.flatMap encO⟩) (A := y.flatMap rdsO) [1, 0] rfl) ?_
    refine Done.one (.inl rfl) rfl (RV.cell1 (LO.loadK 2 (vs := [.slice ya y.length yc, str d.jt, .int .i64 d.js]) rfl he_8 Tryz.isAgg31 Tryz.sizeOf31 rfl rfl) ⟨_, he_8⟩) (List.sublist_append_left [Res.rows (rdsOS ya yc y)] [bk b_5 31 [.slice ya y.length yc, str d.jt, .int .i64 d.js], bk b_4 31 [.slice ya y.length yc, str d.jt, .int .i64 d.js], bk b_3 31 [.slice d.a d.l.length d.c, str d.jt, .int .i64 d.js]]) ?_
    have hda := map_all hd (show d.l.length ≤ j by omega)
    exact ⟨⟨ya, yc, y, d.jt, d.js⟩, by simp only [DX.dat, hda], rfl, rfl⟩

end Go.Proofs.YtjncpgcccgdeiaaGreatDoor

set_option linter.unusedSimpArgs false
set_option linter.unusedVariables false
set_option linter.unnecessarySimpa false
namespace Go.Proofs.YtjncpgcccgdeiaaGreatDoor
open Go Go.RowKit
attribute [local irreducible] JL JC JQ JO LO PO JA JX Ct

theorem Y_sBestN (d : DX) (hz : d.dat.okz) (hl : d.l.length ≤ 1000000000) (q : Nat) (hq : bestD d.dat = ((q : Nat) : Int)) : Ct Tryz.prog 49 [.agg #[.slice d.a d.l.length d.c, str d.jt, .int .i64 d.js]] [] (fun w => SeesA w (rdsD d)) (fun v A' => v = .int .i64 ((q : Nat) : Int) ∧ A' = []) :=
  (Y_sBest d hz hl).weak (fun _ h => h) fun v A' ⟨hv, hA⟩ => ⟨by rw [hv, hq], hA⟩

end Go.Proofs.YtjncpgcccgdeiaaGreatDoor

set_option linter.unusedSimpArgs false
set_option linter.unusedVariables false
set_option linter.unnecessarySimpa false
namespace Go.Proofs.YtjncpgcccgdeiaaGreatDoor
open Go Go.RowKit
theorem disk_two {d : DX} (h : diskOk d.dat = true) : d.l.length = 2 := by
  rw [diskOk_dat] at h
  unfold diskOkF at h
  simp only [Bool.and_eq_true, decide_eq_true_eq] at h
  omega
theorem diskOk_slot {d : DD} (h : diskOk d = true) {i : Nat} (hi : i < d.slots.length) : slotG (d.slots.getD i o0.t) = true := by
  unfold diskOk diskOkF at h
  simp only [Bool.and_eq_true] at h
  exact rall_get h.2.2.1 hi
theorem bestF_whole (f : Nat → SD) : ∀ (n q : Nat), bestF f n = ((q : Nat) : Int) → (f q).whole = true
  | 0, q, h => by simp only [bestF] at h; omega
  | j + 1, q, h => by
    unfold bestF at h
    split at h
    · rename_i hc
      have : q = j := by omega
      rw [this]
      exact hc.1
    · exact bestF_whole f j q h
theorem best_whole {d : DD} {q : Nat} (hq : bestD d = ((q : Nat) : Int)) : (d.slots.getD q o0.t).whole = true := bestF_whole _ _ _ hq
theorem best_ok {d : DD} (h : diskOk d = true) : (d.slots.getD (bestD d).toNat o0.t).whole = true ∧ 0 ≤ mostOf d ∧ mostOf d ≤ 99999 ∧ storeOk (d.slots.getD (bestD d).toNat o0.t).cells = true := by
  obtain ⟨q, hq, hl⟩ := diskOk_best h
  have hw := best_whole hq
  have hs := diskOk_slot h hl
  unfold mostOf
  rw [hq, Int.toNat_natCast]
  rw [slotG, hw] at hs
  simp only [Bool.not_true, Bool.false_or, Bool.and_eq_true, within, decide_eq_true_eq] at hs
  exact ⟨hw, hs.1.1, hs.1.2, hs.2⟩
theorem most_range {d : DD} (h : diskOk d = true) : 0 ≤ mostOf d ∧ mostOf d ≤ 99999 := ⟨(best_ok h).2.1, (best_ok h).2.2.1⟩
/- what the records make of a store -/
def applyR (s : List Cell) (l : List Cell) : List Cell := l.foldl (fun s c => putKey s c.1 c.2) s
def applyAll (s : List Cell) (L : List (List Cell)) : List Cell := L.foldl applyR s
def recD (d : DD) : List (List Cell) × Nat := recsOf d.jt (mostOf d + 1)
def DD.clean (d : DD) : DD := if diskOk d = true then ⟨d.slots, d.jt.take (recD d).2, (((recD d).2 : Nat) : Int)⟩ else d
def DD.recov (d : DD) : List Cell × Int := if diskOk d = true then (applyAll (d.slots.getD (bestD d).toNat o0.t).cells (recD d).1, mostOf d + (((recD d).1.length : Nat) : Int)) else ([], 0)
theorem recD_of {d : DX} {m : Int} (h : m = mostOf d.dat) : recsOf d.jt (m + 1) = recD d.dat := by rw [h]; rfl
theorem clean_dat {y d : DX} {k : Nat} (hy : y.dat = d.dat) (hok : diskOk d.dat = true) (hn : (recD d.dat).2 = k) : (⟨y.a, y.c, y.l, d.jt.take k, ((k : Nat) : Int)⟩ : DX).dat = d.dat.clean := by
  rw [DD.clean, if_pos hok, hn]
  have h1 := congrArg DD.slots hy
  simp only [DX.dat] at *
  rw [h1]
theorem clean_not {d : DD} (h : diskOk d = false) : d.clean = d := by rw [DD.clean, if_neg (by rw [h]; exact Bool.false_ne_true)]
theorem clean_okz {d : DD} (h : d.okz) : d.clean.okz := by
  unfold DD.clean
  split
  · refine ⟨h.k0, h.k1, ?_⟩
    have := h.k2
    simp only [List.length_take]
    omega
  · exact h
theorem clean_slots (d : DD) : d.clean.slots = d.slots := by unfold DD.clean; split <;> rfl
theorem recsOf_count (t : Str) (f : Int) : (recsOf t f).1.length ≤ t.length := by
  unfold recsOf
  split
  · have h1 := (recsG_sum f (linesOf t) 0).2
    have h2 := linesG_len t []
    unfold linesOf at *
    omega
  · exact Nat.zero_le _
/- how great a recovered store is -/
def sumC (L : List (List Cell)) : Nat := L.foldr (fun l n => l.length + n) 0
theorem readI_cells (x : Str) : (readI x).2.1.length ≤ x.length := by
  unfold readI
  split
  · exact Nat.zero_le _
  · split
    · exact Nat.zero_le _
    · rename_i h
      have h1 := (splitB_len 32 x).1
      simp only [List.length_map, midsOf, List.length_take, List.length_drop]
      omega
theorem recsG_cells (f : Int) : ∀ (l : List Str) (m : Nat), sumC (recsG f m l).1 ≤ (recsG f m l).2
  | [], m => Nat.le_refl _
  | x :: l, m => by
    have h1 := recsG_cells f l m
    have h2 := recsG_cells f l (m + 1)
    have h3 := readI_cells x
    unfold recsG
    split
    · exact Nat.le_refl _
    · split
      · dsimp only; omega
      · split
        · simp only [sumC, List.foldr_cons] at *; omega
        · exact Nat.le_refl _
theorem recsOf_cells (t : Str) (f : Int) : sumC (recsOf t f).1 ≤ (recsOf t f).2 := by
  unfold recsOf
  split
  · exact recsG_cells _ _ _
  · exact Nat.le_refl _
theorem applyR_len : ∀ (l s : List Cell), (applyR s l).length ≤ s.length + l.length
  | [], s => Nat.le_refl _
  | c :: l, s => by
    have h1 := applyR_len l (putKey s c.1 c.2)
    have h2 := putKey_len s c.1 c.2
    simp only [applyR, List.foldl_cons, List.length_cons] at *
    omega
theorem applyAll_len : ∀ (L : List (List Cell)) (s : List Cell), (applyAll s L).length ≤ s.length + sumC L
  | [], s => Nat.le_refl _
  | l :: L, s => by
    have h1 := applyAll_len L (applyR s l)
    have h2 := applyR_len l s
    simp only [applyAll, List.foldl_cons, sumC, List.foldr_cons] at *
    omega
theorem storeOk_len {s : List Cell} (h : storeOk s = true) : s.length ≤ 900 := by
  simp only [storeOk, Bool.and_eq_true, decide_eq_true_eq] at h
  omega
theorem jour_len {d : DD} (h : diskOk d = true) : d.jt.length ≤ 20000 := by
  have := diskOk_jour h
  simp only [jourOk, Bool.and_eq_true, decide_eq_true_eq] at this
  omega
theorem recov_len {d : DD} (h : diskOk d = true) : d.recov.1.length ≤ 20900 := by
  rw [DD.recov, if_pos h]
  have h1 := applyAll_len (recD d).1 (d.slots.getD (bestD d).toNat o0.t).cells
  have h2 := storeOk_len (best_ok h).2.2.2
  have h3 := recsOf_cells d.jt (mostOf d + 1)
  have h4 := recsOf_le d.jt (mostOf d + 1)
  have h5 := jour_len h
  unfold recD at *
  dsimp only
  omega
theorem recsG_key (f : Int) : ∀ (l : List Str) (m : Nat) (q : List Cell), q ∈ (recsG f m l).1 → ∀ c ∈ q, c.1.length ≤ 20000 ∧ c.2.length ≤ 20000
  | [], m, q, h => by cases h
  | x :: l, m, q, h => by
    unfold recsG at h
    split at h
    · cases h
    · split at h
      · exact recsG_key f l m q h
      · split at h
        · rcases List.mem_cons.1 h with rfl | h
          · intro c hc
            unfold readI at hc
            split at hc
            · cases hc
            · split at hc
              · cases hc
              · obtain ⟨w, _, rfl⟩ := List.mem_map.1 hc
                exact ⟨unhex_len _, unhex_len _⟩
          · exact recsG_key f l (m + 1) q h
        · cases h
theorem recsOf_key {t : Str} {f : Int} {q : List Cell} (h : q ∈ (recsOf t f).1) : ∀ c ∈ q, c.1.length ≤ 20000 ∧ c.2.length ≤ 20000 := by
  unfold recsOf at h
  split at h
  · exact recsG_key _ _ _ _ h
  · cases h
section
variable {y : List RX} {j i : Nat} {s : List Cell}
theorem rec_key {t : Str} {f : Int} (h : y.map cellsR = (recsOf t f).1) (hj : j < y.length) (hi : i < (y.getD j r0).t.cells.length) : ((y.getD j r0).t.cells.getD i c0).1.length ≤ 20000 ∧ ((y.getD j r0).t.cells.getD i c0).2.length ≤ 20000 :=
  recsOf_key (by rw [← h]; exact List.mem_map_of_mem (f := cellsR) (getD_mem (d := r0) hj)) _ (getD_mem (d := c0) hi)
theorem mapR_at (hj : j < y.length) : (y.map cellsR).drop j = (y.getD j r0).t.cells :: (y.map cellsR).drop (j + 1) := drop_at (map_getD (f := cellsR) r0 hj)
theorem applyAll_step (hj : j < y.length) : applyAll s ((y.map cellsR).drop j) = applyAll (applyR s (y.getD j r0).t.cells) ((y.map cellsR).drop (j + 1)) := by
  rw [mapR_at hj]
  rfl
theorem sumC_step (hj : j < y.length) : sumC ((y.map cellsR).drop j) = (y.getD j r0).t.cells.length + sumC ((y.map cellsR).drop (j + 1)) := by
  rw [mapR_at hj]
  rfl
theorem applyR_step {l : List Cell} (hi : i < l.length) : applyR s (l.drop i) = applyR (putKey s (l.getD i c0).1 (l.getD i c0).2) (l.drop (i + 1)) := by
  rw [drop_at (getD_some (d := c0) hi)]
  rfl
theorem putKey_one (s : List Cell) (k v : Str) : (putKey s k v).length ≤ s.length + 1 := putKey_len s k v
end
theorem recov_eq {d : DX} {s0 s1 : List Cell} {R : List (List Cell)} {m : Int} {k : Nat} (hok : diskOk d.dat = true) (h0 : s0 = (d.dat.slots.getD (bestD d.dat).toNat o0.t).cells) (hm : m = mostOf d.dat) (hR : R = (recsOf d.jt (m + 1)).1) (h1 : s1 = applyAll s0 R) (hk : R.length = k) : d.dat.recov = (s1, m + ((k : Nat) : Int)) := by
  rw [DD.recov, if_pos hok, h1, h0, hR, hm]
  rw [hR, hm] at hk
  rw [← hk]
  rfl
theorem recov_not {d : DD} (h : diskOk d = false) : d.recov = ([], 0) := by rw [DD.recov, if_neg (by rw [h]; exact Bool.false_ne_true)]
/- a checkpoint -/
def DD.foldB (d : DD) : DD × Bool :=
  if diskOk d = true ∧ ¬ (99999 : Int) < d.recov.2 ∧ ¬ d.recov.2 = mostOf d then (⟨d.slots.set (1 - (bestD d).toNat) ⟨d.recov.2, d.recov.1, false⟩, d.jt.take (recD d).2, (((recD d).2 : Nat) : Int)⟩, true) else (d, false)
theorem foldB_no {d : DD} (h : ¬ (diskOk d = true ∧ ¬ (99999 : Int) < d.recov.2 ∧ ¬ d.recov.2 = mostOf d)) : d.foldB = (d, false) := by rw [DD.foldB, if_neg h]
theorem foldB_yes {d : DD} (h : diskOk d = true ∧ ¬ (99999 : Int) < d.recov.2 ∧ ¬ d.recov.2 = mostOf d) : d.foldB = (⟨d.slots.set (1 - (bestD d).toNat) ⟨d.recov.2, d.recov.1, false⟩, d.jt.take (recD d).2, (((recD d).2 : Nat) : Int)⟩, true) := by rw [DD.foldB, if_pos h]
theorem mem_set {α : Type} {l : List α} {i : Nat} {x y : α} (h : x ∈ l.set i y) : x ∈ l ∨ x = y := by
  rcases List.mem_or_eq_of_mem_set h with h | h
  · exact .inl h
  · exact .inr h
theorem foldB_lim {d : DD} {n : Nat} (hz : d.okz) (h : d.lim n) (hn : 20900 ≤ n) : d.foldB.1.lim n := by
  by_cases hc : diskOk d = true ∧ ¬ (99999 : Int) < d.recov.2 ∧ ¬ d.recov.2 = mostOf d
  · rw [foldB_yes hc]
    refine ⟨by rw [List.length_set]; exact h.l0, fun s hs => ?_⟩
    rcases mem_set hs with hs | rfl
    · exact h.l1 s hs
    · exact ⟨Nat.le_trans (recov_len hc.1) hn⟩
  · rw [foldB_no hc]; exact h
theorem cntV_setD {l : List SD} {i : Nat} {x : SD} : cntV cntOd (l.set i x) ≤ cntV cntOd l + cntOd x := by
  induction l generalizing i with
  | nil => simp [cntV]
  | cons a l ih =>
    cases i with
    | zero => simp only [List.set_cons_zero, cntV]; omega
    | succ i => have := ih (i := i); simp only [List.set_cons_succ, cntV] at *; omega
theorem foldB_cnt {d : DD} {n : Nat} (h : cntV cntOd d.slots ≤ n) : cntV cntOd d.foldB.1.slots ≤ n + 50000 := by
  by_cases hc : diskOk d = true ∧ ¬ (99999 : Int) < d.recov.2 ∧ ¬ d.recov.2 = mostOf d
  · rw [foldB_yes hc]
    have h1 := cntV_setD (l := d.slots) (i := 1 - (bestD d).toNat) (x := ⟨d.recov.2, d.recov.1, false⟩)
    have h2 := recov_len hc.1
    simp only [cntOd] at *
    omega
  · rw [foldB_no hc]; exact Nat.le_trans h (Nat.le_add_right _ _)
theorem fold_dat {a : Option Addr} {c q : Nat} {l : List OX} {d e : DD} {jt : Str} {js : Int} {el : OX} {x : SD} (hl : l.map OX.t = e.slots) (hj : jt = e.jt) (hs : js = e.js) (hq : bestD d = ((q : Nat) : Int)) (he : el.t = x) : (⟨a, c, l.set (1 - q) el, jt, js⟩ : DX).dat = ⟨e.slots.set (1 - (bestD d).toNat) x, e.jt, e.js⟩ := by
  simp only [DX.dat, List.map_set, hl, hj, hs, hq, Int.toNat_natCast, he]
end Go.Proofs.YtjncpgcccgdeiaaGreatDoor

set_option linter.unusedSimpArgs false
set_option linter.unusedVariables false
set_option linter.unnecessarySimpa false
namespace Go.Proofs.YtjncpgcccgdeiaaGreatDoor
open Go Go.RowKit
attribute [local irreducible] JL JC JQ JO LO PO JA JX Ct

theorem Y_iBestN (d : DX) (hz : d.dat.okz) (hl : d.l.length ≤ 1000000000) (q : Nat) (hq : bestD d.dat = ((q : Nat) : Int)) : Ct Tryz.prog 48 [.agg #[.slice d.a d.l.length d.c, str d.jt, .int .i64 d.js]] [] (fun w => SeesA w (rdsD d)) (fun v A' => v = .int .i64 ((q : Nat) : Int) ∧ A' = []) :=
  (Y_iBest d hz hl).weak (fun _ h => h) fun v A' ⟨hv, hA⟩ => ⟨by rw [hv, hq], hA⟩

set_option maxRecDepth 4000 in
set_option maxHeartbeats 1000000 in
theorem Y_iClean (d : DX) (hz : d.dat.okz) (hl : d.dat.lim 1000000000) :
    Ct Tryz.prog 19 [.agg #[.slice d.a d.l.length d.c, str d.jt, .int .i64 d.js]] [] (fun w => SeesA w (rdsD d) ∧ HexOk w) (fun v A' => ∃ y : DX, y.dat = d.dat.clean ∧ v = .agg #[.slice y.a y.l.length y.c, str y.jt, .int .i64 y.js] ∧ A' = [.rows (rdsD y)]) := by
  refine Ct.introL Tryz.func19 rfl Tryz.ntmps19 (Nat.le_of_ble_eq_true rfl) fun w0 hpre hlow => ?_
  have hs_1 : Sees w0 (.slice d.a d.l.length d.c) 3 d.l.length (d.l.flatMap encO) := (hpre.1).head
  have hi_2 : SeesA w0 (d.l.flatMap rdsO) := (hpre.1).tail
  have hjt := hz.k2
  have hdl : d.l.length ≤ 1000000000 := by have := hl.l0; simpa only [DX.dat, List.length_map] using this
  refine JC.seq ?_
  refine JC.region ?_
  refine JL.op rfl (JO.box (cs := [.slice d.a d.l.length d.c, str d.jt, .int .i64 d.js]) rfl rfl) ?_
  rintro _ _ ⟨b_3, rfl, rfl⟩
  refine JL.op rfl (JO.alloc (z := .agg #[.slice none 0 0, str [], .int .i64 0]) (cs := [.slice none 0 0, str [], .int .i64 0]) Tryz.zeroValue31 rfl) ?_
  rintro _ _ ⟨b_4, rfl, rfl⟩
  refine JL.nil ?_
  refine JQ.seq ?_
  refine JC.seq ?_
  refine JC.region ?_
  refine JL.ld rfl (LO.loadK 1 (vs := [.slice d.a d.l.length d.c, str d.jt, .int .i64 d.js]) rfl rfl Tryz.isAgg31 Tryz.sizeOf31 rfl rfl) ?_
  refine JL.op rfl (JO.call [] Tryz.call62 rfl (Z_implDiskclone d hl) rfl (fun w hw => hw.seeOutA hpre.1 nMA)) ?_
  rintro _ _ ⟨_, ⟨y_5, hy_6, rfl, rfl⟩, rfl⟩
  refine JL.op rfl (JO.alloc (z := .agg #[.slice none 0 0, str [], .int .i64 0]) (cs := [.slice none 0 0, str [], .int .i64 0]) Tryz.zeroValue31 rfl) ?_
  rintro _ _ ⟨b_7, rfl, rfl⟩
  refine JL.op rfl (JO.store 0 (vs := [.slice y_5.a y_5.l.length y_5.c, str y_5.jt, .int .i64 y_5.js]) (cs' := [.slice y_5.a y_5.l.length y_5.c, str y_5.jt, .int .i64 y_5.js]) rfl rfl rfl rfl Tryz.sizeOf31 rfl rfl (Nat.le_of_ble_eq_true rfl) rfl) ?_
  rintro _ _ rfl
  refine JL.nil ?_
  refine JQ.seq ?_
  refine JC.seq ?_
  refine JC.seq ?_
  refine JC.region ?_
  refine JL.ld rfl (LO.loadK 3 (vs := [.slice d.a d.l.length d.c, str d.jt, .int .i64 d.js]) rfl rfl Tryz.isAgg31 Tryz.sizeOf31 rfl rfl) ?_
  refine JL.op rfl (JO.call [] Tryz.call47 rfl (Y_implDiskOk d hz (by omega)) rfl (fun w hw => hw.seeOutA hpre.1 nMA)) ?_
  rintro _ _ ⟨_, ⟨rfl, rfl⟩, rfl⟩
  refine JL.nil ?_
  refine JQ.seq ?_
  rcases Bool.eq_false_or_eq_true (diskOk d.dat) with h_8 | h_8
  · skip
    refine JC.condT (congrArg Value.bool h_8) ?_
    refine JC.seq ?_
    obtain ⟨q, hq, hql⟩ := diskOk_best h_8
    have hql : q < d.l.length := by simpa only [DX.dat, List.length_map] using hql
    have hjr := diskOk_jour h_8
    have hjr2 : ((d.jt.length : Nat) : Int) ≤ 20000 ∧ 0 ≤ d.js ∧ d.js ≤ ((d.jt.length : Nat) : Int) := by have h_ : jourOk d.jt d.js = true := hjr; simpa only [jourOk, within, Bool.and_eq_true, decide_eq_true_eq, and_assoc] using h_
    have hmost : (d.l.getD q o0).t.seq = mostOf d.dat := by rw [mostOf, hq, Int.toNat_natCast]; exact congrArg SD.seq getD_map'.symm
    have hmr := most_range h_8
    have hl2 := disk_two h_8
    have hrle := recsOf_le d.jt ((d.l.getD q o0).t.seq + 1)
    refine JC.regionA [bk b_7 31 [.slice y_5.a y_5.l.length y_5.c, str y_5.jt, .int .i64 y_5.js], Res.rows (rdsD y_5), bk b_4 31 [.slice none 0 0, str [], .int .i64 0], bk b_3 31 [.slice d.a d.l.length d.c, str d.jt, .int .i64 d.js]] 15 mixed (by simp) ?_
    refine JA.takeP 0 rfl (by kernel_rfl) (NP.th (NP.th NP.body)) (by kernel_rfl) (by kernel_rfl) rfl (PO.fieldAddr fo31_1 rfl) ?_
    refine JA.takeP 1 rfl (by kernel_rfl) (NP.th (NP.th NP.body)) (by kernel_rfl) (by kernel_rfl) rfl (PO.fieldAddr fo29_0 rfl) ?_
    refine JA.take 2 rfl (by kernel_rfl) (NP.th (NP.th NP.body)) (by kernel_rfl) (by kernel_rfl) (by kernel_rfl) rfl (LO.load1 3 (v := str d.jt) rfl rfl Tryz.isAgg9 rfl) ?_
    refine JA.takeP 3 rfl (by kernel_rfl) (NP.th (NP.th NP.body)) (by kernel_rfl) (by kernel_rfl) rfl (PO.fieldAddr fo31_0 rfl) ?_
    refine JA.take 4 rfl (by kernel_rfl) (NP.th (NP.th NP.body)) (by kernel_rfl) (by kernel_rfl) (by kernel_rfl) rfl (LO.load1 3 (v := .slice d.a d.l.length d.c) rfl rfl Tryz.isAgg28 rfl) ?_
    refine JA.take 5 rfl (by kernel_rfl) (NP.th (NP.th NP.body)) (by kernel_rfl) (by kernel_rfl) (by kernel_rfl) rfl (LO.loadK 3 (vs := [.slice d.a d.l.length d.c, str d.jt, .int .i64 d.js]) rfl rfl Tryz.isAgg31 Tryz.sizeOf31 rfl rfl) ?_
    refine JA.one (i := 6) (by kernel_rfl) ?_
    refine JX.op rfl rfl (JO.call [] Tryz.call48 rfl (Y_iBestN d hz (by omega) q hq) rfl (fun w hw => hw.seeOutA hpre.1 nMA)) ?_
    rintro _ _ ⟨_, ⟨rfl, rfl⟩, rfl⟩
    refine ⟨by simp, ?_⟩
    obtain ⟨hr_9, hr_9b, -⟩ := sees_some hs_1 (by omega)
    refine JA.takeP 7 rfl (by kernel_rfl) (NP.th (NP.th NP.body)) (by kernel_rfl) (by kernel_rfl) rfl (PO.indexAddrV (i := q) Tryz.underlying28 Tryz.sizeOf60 hr_9 hr_9b rfl rfl (by omega)) ?_
    refine JA.takeP 8 rfl (by kernel_rfl) (NP.th (NP.th NP.body)) (by kernel_rfl) (by kernel_rfl) rfl (PO.fieldAddrE fo60_0 hr_9 rfl) ?_
    have hi_10 := SeesA.elem hi_2 o0 (show q < d.l.length by omega)
    have hs_11 := seesO hi_10
    refine JA.take 9 rfl (by kernel_rfl) (NP.th (NP.th NP.body)) (by kernel_rfl) (by kernel_rfl) (by kernel_rfl) rfl (LO.loadS1 (v := .int .i64 ((d.l.getD q o0).t.seq)) hs_1 (fun _ _ => List.not_mem_nil) rfl Tryz.isAgg3 (flat_at encO_len o0 d.l q 0 (by omega) (by decide))) ?_
    refine JA.takeP 10 rfl (by kernel_rfl) (NP.th (NP.th NP.body)) (by kernel_rfl) (by kernel_rfl) rfl (PO.add (c := ((d.l.getD q o0).t.seq) + 1) rfl rfl (wr (by omega))) ?_
    refine JA.one (i := 11) (by kernel_rfl) ?_
    refine JX.op rfl rfl (JO.call [] Tryz.call70 rfl (Y_iRecs d.jt (((d.l.getD q o0).t.seq) + 1) (by omega)) rfl (fun w hw => hw.hex hlow hpre.2)) ?_
    rintro _ _ ⟨_, ⟨a_16, c_17, y_18, hy_19, rfl, rfl⟩, rfl⟩
    refine ⟨by simp, ?_⟩
    refine JA.takeP 12 rfl (by kernel_rfl) (NP.th (NP.th NP.body)) (by kernel_rfl) (by kernel_rfl) rfl (PO.move (v := .tuple #[.slice a_16 y_18.length c_17, .int .i64 (((recsOf d.jt (((d.l.getD q o0).t.seq) + 1)).2 : Nat) : Int)]) rfl) ?_
    refine JA.takeP 13 rfl (by kernel_rfl) (NP.th (NP.th NP.body)) (by kernel_rfl) (by kernel_rfl) rfl (PO.extract (v := .slice a_16 y_18.length c_17) rfl rfl) ?_
    refine JA.takeP 14 rfl (by kernel_rfl) (NP.th (NP.th NP.body)) (by kernel_rfl) (by kernel_rfl) rfl (PO.extract (v := .int .i64 (((recsOf d.jt (((d.l.getD q o0).t.seq) + 1)).2 : Nat) : Int)) rfl rfl) ?_
    refine JA.takeP 15 rfl (by kernel_rfl) (NP.th (NP.th NP.body)) (by kernel_rfl) (by kernel_rfl) rfl (PO.assign (v := .slice a_16 y_18.length c_17) rfl) ?_
    refine JA.takeP 16 rfl (by kernel_rfl) (NP.th (NP.th NP.body)) (by kernel_rfl) (by kernel_rfl) rfl (PO.assign (v := .int .i64 (((recsOf d.jt (((d.l.getD q o0).t.seq) + 1)).2 : Nat) : Int)) rfl) ?_
    refine JA.done (by kernel_rfl) ?_
    refine JQ.seq ?_
    refine JC.region ?_
    refine JL.pure rfl (PO.fieldAddr fo31_1 rfl) ?_
    refine JL.pure rfl (PO.fieldAddr fo29_0 rfl) ?_
    refine JL.ld rfl (LO.load1 4 (v := str d.jt) rfl rfl Tryz.isAgg9 rfl) ?_
    refine JL.pure rfl (PO.move (v := .int .i64 (((recsOf d.jt (((d.l.getD q o0).t.seq) + 1)).2 : Nat) : Int)) rfl) ?_
    refine JL.pure rfl (PO.sliceSh (j := ((recsOf d.jt (((d.l.getD q o0).t.seq) + 1)).2)) Tryz.underlying9 rfl rfl (by omega)) ?_
    refine JL.pure rfl (PO.move (v := .int .i64 (((recsOf d.jt (((d.l.getD q o0).t.seq) + 1)).2 : Nat) : Int)) rfl) ?_
    refine JL.pure rfl (PO.build (ps := [(0, str (d.jt.take ((recsOf d.jt (((d.l.getD q o0).t.seq) + 1)).2))), (1, .int .i64 (((recsOf d.jt (((d.l.getD q o0).t.seq) + 1)).2 : Nat) : Int))]) (cs := [str (d.jt.take ((recsOf d.jt (((d.l.getD q o0).t.seq) + 1)).2)), .int .i64 (((recsOf d.jt (((d.l.getD q o0).t.seq) + 1)).2 : Nat) : Int)]) rfl (by kernel_rfl)) ?_
    refine JL.pure rfl (PO.fieldAddr fo31_1 rfl) ?_
    refine JL.op rfl (JO.store 1 (vs := [str (d.jt.take ((recsOf d.jt (((d.l.getD q o0).t.seq) + 1)).2)), .int .i64 (((recsOf d.jt (((d.l.getD q o0).t.seq) + 1)).2 : Nat) : Int)]) (cs' := [.slice y_5.a y_5.l.length y_5.c, str (d.jt.take ((recsOf d.jt (((d.l.getD q o0).t.seq) + 1)).2)), .int .i64 (((recsOf d.jt (((d.l.getD q o0).t.seq) + 1)).2 : Nat) : Int)]) rfl rfl rfl rfl Tryz.sizeOf29 rfl rfl (Nat.le_of_ble_eq_true rfl) rfl) ?_
    rintro _ _ rfl
    refine JL.nil ?_
    refine JQ.seq ?_
    refine JC.seq ?_
    refine JC.region ?_
    refine JL.ld rfl (LO.loadK 1 (vs := [.slice y_5.a y_5.l.length y_5.c, str (d.jt.take ((recsOf d.jt (((d.l.getD q o0).t.seq) + 1)).2)), .int .i64 (((recsOf d.jt (((d.l.getD q o0).t.seq) + 1)).2 : Nat) : Int)]) rfl rfl Tryz.isAgg31 Tryz.sizeOf31 rfl rfl) ?_
    refine JL.op rfl (JO.store 3 (vs := [.slice y_5.a y_5.l.length y_5.c, str (d.jt.take ((recsOf d.jt (((d.l.getD q o0).t.seq) + 1)).2)), .int .i64 (((recsOf d.jt (((d.l.getD q o0).t.seq) + 1)).2 : Nat) : Int)]) (cs' := [.slice y_5.a y_5.l.length y_5.c, str (d.jt.take ((recsOf d.jt (((d.l.getD q o0).t.seq) + 1)).2)), .int .i64 (((recsOf d.jt (((d.l.getD q o0).t.seq) + 1)).2 : Nat) : Int)]) rfl rfl rfl rfl Tryz.sizeOf31 rfl rfl (Nat.le_of_ble_eq_true rfl) rfl) ?_
    rintro _ _ rfl
    refine JL.nil ?_
    refine JQ.seq ?_
    refine JC.ret ?_
    refine JQ.perm (pick_perm [2] (A := [Res.rows (rdsD y_5)]) (F := [Res.rows (rdsRS a_16 c_17 y_18), bk b_7 31 [.slice y_5.a y_5.l.length y_5.c, str (d.jt.take ((recsOf d.jt (((d.l.getD q o0).t.seq) + 1)).2)), .int .i64 (((recsOf d.jt (((d.l.getD q o0).t.seq) + 1)).2 : Nat) : Int)], bk b_4 31 [.slice y_5.a y_5.l.length y_5.c, str (d.jt.take ((recsOf d.jt (((d.l.getD q o0).t.seq) + 1)).2)), .int .i64 (((recsOf d.jt (((d.l.getD q o0).t.seq) + 1)).2 : Nat) : Int)], bk b_3 31 [.slice d.a d.l.length d.c, str d.jt, .int .i64 d.js]]) rfl).symm ?_
    refine Done.one (.inl rfl) rfl (RV.cell1 (LO.loadK 3 (vs := [.slice y_5.a y_5.l.length y_5.c, str (d.jt.take ((recsOf d.jt (((d.l.getD q o0).t.seq) + 1)).2)), .int .i64 (((recsOf d.jt (((d.l.getD q o0).t.seq) + 1)).2 : Nat) : Int)]) rfl rfl Tryz.isAgg31 Tryz.sizeOf31 rfl rfl) ⟨_, rfl⟩) (List.sublist_append_left [Res.rows (rdsD y_5)] [Res.rows (rdsRS a_16 c_17 y_18), bk b_7 31 [.slice y_5.a y_5.l.length y_5.c, str (d.jt.take ((recsOf d.jt (((d.l.getD q o0).t.seq) + 1)).2)), .int .i64 (((recsOf d.jt (((d.l.getD q o0).t.seq) + 1)).2 : Nat) : Int)], bk b_4 31 [.slice y_5.a y_5.l.length y_5.c, str (d.jt.take ((recsOf d.jt (((d.l.getD q o0).t.seq) + 1)).2)), .int .i64 (((recsOf d.jt (((d.l.getD q o0).t.seq) + 1)).2 : Nat) : Int)], bk b_3 31 [.slice d.a d.l.length d.c, str d.jt, .int .i64 d.js]]) ?_
    exact ⟨(⟨y_5.a, y_5.c, y_5.l, d.jt.take ((recsOf d.jt (((d.l.getD q o0).t.seq) + 1)).2), (((recsOf d.jt (((d.l.getD q o0).t.seq) + 1)).2 : Nat) : Int)⟩ : DX), clean_dat (y := y_5) hy_6 h_8 (by rw [← recD_of hmost]), rfl, rfl⟩
  · skip
    refine JC.condF (congrArg Value.bool h_8) ?_
    refine JC.skip ?_
    refine JQ.seq ?_
    refine JC.seq ?_
    refine JC.region ?_
    refine JL.ld rfl (LO.loadK 0 (vs := [.slice y_5.a y_5.l.length y_5.c, str y_5.jt, .int .i64 y_5.js]) rfl rfl Tryz.isAgg31 Tryz.sizeOf31 rfl rfl) ?_
    refine JL.op rfl (JO.store 2 (vs := [.slice y_5.a y_5.l.length y_5.c, str y_5.jt, .int .i64 y_5.js]) (cs' := [.slice y_5.a y_5.l.length y_5.c, str y_5.jt, .int .i64 y_5.js]) rfl rfl rfl rfl Tryz.sizeOf31 rfl rfl (Nat.le_of_ble_eq_true rfl) rfl) ?_
    rintro _ _ rfl
    refine JL.nil ?_
    refine JQ.seq ?_
    refine JC.ret ?_
    refine JQ.perm (pick_perm [1] (A := [Res.rows (rdsD y_5)]) (F := [bk b_7 31 [.slice y_5.a y_5.l.length y_5.c, str y_5.jt, .int .i64 y_5.js], bk b_4 31 [.slice y_5.a y_5.l.length y_5.c, str y_5.jt, .int .i64 y_5.js], bk b_3 31 [.slice d.a d.l.length d.c, str d.jt, .int .i64 d.js]]) rfl).symm ?_
    refine Done.one (.inl rfl) rfl (RV.cell1 (LO.loadK 2 (vs := [.slice y_5.a y_5.l.length y_5.c, str y_5.jt, .int .i64 y_5.js]) rfl rfl Tryz.isAgg31 Tryz.sizeOf31 rfl rfl) ⟨_, rfl⟩) (List.sublist_append_left [Res.rows (rdsD y_5)] [bk b_7 31 [.slice y_5.a y_5.l.length y_5.c, str y_5.jt, .int .i64 y_5.js], bk b_4 31 [.slice y_5.a y_5.l.length y_5.c, str y_5.jt, .int .i64 y_5.js], bk b_3 31 [.slice d.a d.l.length d.c, str d.jt, .int .i64 d.js]]) ?_
    exact ⟨y_5, by rw [hy_6, clean_not (by exact h_8)], rfl, rfl⟩

set_option maxRecDepth 4000 in
set_option maxHeartbeats 1000000 in
theorem Y_sClean (d : DX) (hz : d.dat.okz) (hl : d.dat.lim 1000000000) :
    Ct Tryz.prog 18 [.agg #[.slice d.a d.l.length d.c, str d.jt, .int .i64 d.js]] [] (fun w => SeesA w (rdsD d)) (fun v A' => ∃ y : DX, y.dat = d.dat.clean ∧ v = .agg #[.slice y.a y.l.length y.c, str y.jt, .int .i64 y.js] ∧ A' = [.rows (rdsD y)]) := by
  refine Ct.intro Tryz.func18 rfl Tryz.ntmps18 (Nat.le_of_ble_eq_true rfl) fun w0 hpre => ?_
  have hs_1 : Sees w0 (.slice d.a d.l.length d.c) 3 d.l.length (d.l.flatMap encO) := (hpre).head
  have hi_2 : SeesA w0 (d.l.flatMap rdsO) := (hpre).tail
  have hjt := hz.k2
  have hdl : d.l.length ≤ 1000000000 := by have := hl.l0; simpa only [DX.dat, List.length_map] using this
  refine JC.seq ?_
  refine JC.region ?_
  refine JL.op rfl (JO.box (cs := [.slice d.a d.l.length d.c, str d.jt, .int .i64 d.js]) rfl rfl) ?_
  rintro _ _ ⟨b_3, rfl, rfl⟩
  refine JL.op rfl (JO.alloc (z := .agg #[.slice none 0 0, str [], .int .i64 0]) (cs := [.slice none 0 0, str [], .int .i64 0]) Tryz.zeroValue31 rfl) ?_
  rintro _ _ ⟨b_4, rfl, rfl⟩
  refine JL.nil ?_
  refine JQ.seq ?_
  refine JC.seq ?_
  refine JC.region ?_
  refine JL.ld rfl (LO.loadK 1 (vs := [.slice d.a d.l.length d.c, str d.jt, .int .i64 d.js]) rfl rfl Tryz.isAgg31 Tryz.sizeOf31 rfl rfl) ?_
  refine JL.op rfl (JO.call [] Tryz.call56 rfl (Z_specl23Copy d hl) rfl (fun w hw => hw.seeOutA hpre nMA)) ?_
  rintro _ _ ⟨_, ⟨y_5, hy_6, rfl, rfl⟩, rfl⟩
  refine JL.op rfl (JO.store 2 (vs := [.slice y_5.a y_5.l.length y_5.c, str y_5.jt, .int .i64 y_5.js]) (cs' := [.slice y_5.a y_5.l.length y_5.c, str y_5.jt, .int .i64 y_5.js]) rfl rfl rfl rfl Tryz.sizeOf31 rfl rfl (Nat.le_of_ble_eq_true rfl) rfl) ?_
  rintro _ _ rfl
  refine JL.nil ?_
  refine JQ.seq ?_
  refine JC.seq ?_
  refine JC.seq ?_
  have hzy : y_5.dat.okz := by rw [hy_6]; exact hz
  have hly : y_5.dat.lim 1000000000 := by rw [hy_6]; exact hl
  have hyl : y_5.l.length = d.l.length := by have e_ := congrArg (fun q : DD => q.slots.length) hy_6; simpa only [DX.dat, List.length_map] using e_
  have hyt : y_5.jt = d.jt := congrArg DD.jt hy_6
  have hytl : y_5.jt.length = d.jt.length := by rw [hyt]
  refine JC.region ?_
  refine JL.ld rfl (LO.loadK 2 (vs := [.slice y_5.a y_5.l.length y_5.c, str y_5.jt, .int .i64 y_5.js]) rfl rfl Tryz.isAgg31 Tryz.sizeOf31 rfl rfl) ?_
  refine JL.op rfl (JO.call [] Tryz.call42 rfl (Y_specDiskOk y_5 hzy (by omega)) rfl (fun w hw => hw.seeRows 0 rfl)) ?_
  rintro _ _ ⟨_, ⟨rfl, rfl⟩, rfl⟩
  refine JL.pure rfl (PO.not rfl) ?_
  refine JL.nil ?_
  refine JQ.seq ?_
  rcases Bool.eq_false_or_eq_true (diskOk y_5.dat) with h_7 | h_7
  · skip
    refine JC.condF (congrArg Value.bool (congrArg Bool.not h_7)) ?_
    refine JC.skip ?_
    refine JQ.seq ?_
    refine JC.seq ?_
    obtain ⟨q, hq, hql⟩ := diskOk_best h_7
    have hql : q < y_5.l.length := by simpa only [DX.dat, List.length_map] using hql
    have hjr := diskOk_jour h_7
    have hjr2 : ((y_5.jt.length : Nat) : Int) ≤ 20000 ∧ 0 ≤ y_5.js ∧ y_5.js ≤ ((y_5.jt.length : Nat) : Int) := by have h_ : jourOk y_5.jt y_5.js = true := hjr; simpa only [jourOk, within, Bool.and_eq_true, decide_eq_true_eq, and_assoc] using h_
    have hmost : (y_5.l.getD q o0).t.seq = mostOf y_5.dat := by rw [mostOf, hq, Int.toNat_natCast]; exact congrArg SD.seq getD_map'.symm
    have hmr := most_range h_7
    have hl2 := disk_two h_7
    have hrle := recsOf_le y_5.jt ((y_5.l.getD q o0).t.seq + 1)
    refine JC.ghost (L' := [Res.row (.slice y_5.a y_5.l.length y_5.c) 60 3 y_5.l.length (y_5.l.flatMap encO), Res.rows (y_5.l.flatMap rdsO), bk b_4 31 [.slice none 0 0, str [], .int .i64 0], bk b_3 31 [.slice y_5.a y_5.l.length y_5.c, str y_5.jt, .int .i64 y_5.js]]) (fun w hw => hw.headR (r := ⟨.slice y_5.a y_5.l.length y_5.c, 60, 3, y_5.l.length, y_5.l.flatMap encO⟩) (A := y_5.l.flatMap rdsO) 0 rfl) ?_
    refine JC.regionA [Res.row (.slice y_5.a y_5.l.length y_5.c) 60 3 y_5.l.length (y_5.l.flatMap encO), Res.rows (y_5.l.flatMap rdsO), bk b_4 31 [.slice none 0 0, str [], .int .i64 0], bk b_3 31 [.slice y_5.a y_5.l.length y_5.c, str y_5.jt, .int .i64 y_5.js]] 15 mixed (by simp) ?_
    refine JA.takeP 0 rfl (by kernel_rfl) (NP.th NP.body) (by kernel_rfl) (by kernel_rfl) rfl (PO.fieldAddr fo31_1 rfl) ?_
    refine JA.takeP 1 rfl (by kernel_rfl) (NP.th NP.body) (by kernel_rfl) (by kernel_rfl) rfl (PO.fieldAddr fo29_0 rfl) ?_
    refine JA.take 2 rfl (by kernel_rfl) (NP.th NP.body) (by kernel_rfl) (by kernel_rfl) (by kernel_rfl) rfl (LO.load1 3 (v := str y_5.jt) rfl rfl Tryz.isAgg9 rfl) ?_
    refine JA.takeP 3 rfl (by kernel_rfl) (NP.th NP.body) (by kernel_rfl) (by kernel_rfl) rfl (PO.fieldAddr fo31_0 rfl) ?_
    refine JA.take 4 rfl (by kernel_rfl) (NP.th NP.body) (by kernel_rfl) (by kernel_rfl) (by kernel_rfl) rfl (LO.load1 3 (v := .slice y_5.a y_5.l.length y_5.c) rfl rfl Tryz.isAgg28 rfl) ?_
    refine JA.take 5 rfl (by kernel_rfl) (NP.th NP.body) (by kernel_rfl) (by kernel_rfl) (by kernel_rfl) rfl (LO.loadK 3 (vs := [.slice y_5.a y_5.l.length y_5.c, str y_5.jt, .int .i64 y_5.js]) rfl rfl Tryz.isAgg31 Tryz.sizeOf31 rfl rfl) ?_
    refine JA.one (i := 6) (by kernel_rfl) ?_
    refine JX.op rfl rfl (JO.call [] Tryz.call49 rfl (Y_sBestN y_5 hzy (by omega) q hq) rfl (fun w hw => SeesA.cons (hw.see (i := 0) rfl) (hw.seeRows 1 rfl))) ?_
    rintro _ _ ⟨_, ⟨rfl, rfl⟩, rfl⟩
    refine ⟨by simp, ?_⟩
    refine JA.facts fun hst => ?_
    obtain ⟨hr_8, hr_8b, -⟩ := row_some 0 rfl (by omega) hst
    refine JA.takeP 7 rfl (by kernel_rfl) (NP.th NP.body) (by kernel_rfl) (by kernel_rfl) rfl (PO.indexAddrV (i := q) Tryz.underlying28 Tryz.sizeOf60 hr_8 hr_8b rfl rfl (by omega)) ?_
    refine JA.takeP 8 rfl (by kernel_rfl) (NP.th NP.body) (by kernel_rfl) (by kernel_rfl) rfl (PO.fieldAddrE fo60_0 hr_8 rfl) ?_
    refine JA.take 9 rfl (by kernel_rfl) (NP.th NP.body) (by kernel_rfl) (by kernel_rfl) (by kernel_rfl) rfl (LO.loadR1 0 (v := .int .i64 ((y_5.l.getD q o0).t.seq)) rfl rfl Tryz.isAgg3 (flat_at encO_len o0 y_5.l q 0 (by omega) (by decide))) ?_
    refine JA.takeP 10 rfl (by kernel_rfl) (NP.th NP.body) (by kernel_rfl) (by kernel_rfl) rfl (PO.add (c := ((y_5.l.getD q o0).t.seq) + 1) rfl rfl (wr (by omega))) ?_
    refine JA.one (i := 11) (by kernel_rfl) ?_
    refine JX.op rfl rfl (JO.call [] Tryz.call69 rfl (Y_sRecs y_5.jt (((y_5.l.getD q o0).t.seq) + 1) (by omega)) rfl (fun _ _ => trivial)) ?_
    rintro _ _ ⟨_, ⟨a_13, c_14, y_15, hy_16, rfl, rfl⟩, rfl⟩
    refine ⟨by simp, ?_⟩
    refine JA.takeP 12 rfl (by kernel_rfl) (NP.th NP.body) (by kernel_rfl) (by kernel_rfl) rfl (PO.move (v := .tuple #[.slice a_13 y_15.length c_14, .int .i64 (((recsOf y_5.jt (((y_5.l.getD q o0).t.seq) + 1)).2 : Nat) : Int)]) rfl) ?_
    refine JA.takeP 13 rfl (by kernel_rfl) (NP.th NP.body) (by kernel_rfl) (by kernel_rfl) rfl (PO.extract (v := .slice a_13 y_15.length c_14) rfl rfl) ?_
    refine JA.takeP 14 rfl (by kernel_rfl) (NP.th NP.body) (by kernel_rfl) (by kernel_rfl) rfl (PO.extract (v := .int .i64 (((recsOf y_5.jt (((y_5.l.getD q o0).t.seq) + 1)).2 : Nat) : Int)) rfl rfl) ?_
    refine JA.takeP 15 rfl (by kernel_rfl) (NP.th NP.body) (by kernel_rfl) (by kernel_rfl) rfl (PO.assign (v := .slice a_13 y_15.length c_14) rfl) ?_
    refine JA.takeP 16 rfl (by kernel_rfl) (NP.th NP.body) (by kernel_rfl) (by kernel_rfl) rfl (PO.assign (v := .int .i64 (((recsOf y_5.jt (((y_5.l.getD q o0).t.seq) + 1)).2 : Nat) : Int)) rfl) ?_
    refine JA.done (by kernel_rfl) ?_
    refine JQ.seq ?_
    refine JC.seq ?_
    refine JC.region ?_
    refine JL.pure rfl (PO.fieldAddr fo31_1 rfl) ?_
    refine JL.pure rfl (PO.fieldAddr fo29_0 rfl) ?_
    refine JL.ld rfl (LO.load1 4 (v := str y_5.jt) rfl rfl Tryz.isAgg9 rfl) ?_
    refine JL.pure rfl (PO.move (v := .int .i64 (((recsOf y_5.jt (((y_5.l.getD q o0).t.seq) + 1)).2 : Nat) : Int)) rfl) ?_
    refine JL.pure rfl (PO.sliceSh (j := ((recsOf y_5.jt (((y_5.l.getD q o0).t.seq) + 1)).2)) Tryz.underlying9 rfl rfl (by omega)) ?_
    refine JL.pure rfl (PO.move (v := .int .i64 (((recsOf y_5.jt (((y_5.l.getD q o0).t.seq) + 1)).2 : Nat) : Int)) rfl) ?_
    refine JL.pure rfl (PO.build (ps := [(0, str (y_5.jt.take ((recsOf y_5.jt (((y_5.l.getD q o0).t.seq) + 1)).2))), (1, .int .i64 (((recsOf y_5.jt (((y_5.l.getD q o0).t.seq) + 1)).2 : Nat) : Int))]) (cs := [str (y_5.jt.take ((recsOf y_5.jt (((y_5.l.getD q o0).t.seq) + 1)).2)), .int .i64 (((recsOf y_5.jt (((y_5.l.getD q o0).t.seq) + 1)).2 : Nat) : Int)]) rfl (by kernel_rfl)) ?_
    refine JL.pure rfl (PO.fieldAddr fo31_1 rfl) ?_
    refine JL.op rfl (JO.store 4 (vs := [str (y_5.jt.take ((recsOf y_5.jt (((y_5.l.getD q o0).t.seq) + 1)).2)), .int .i64 (((recsOf y_5.jt (((y_5.l.getD q o0).t.seq) + 1)).2 : Nat) : Int)]) (cs' := [.slice y_5.a y_5.l.length y_5.c, str (y_5.jt.take ((recsOf y_5.jt (((y_5.l.getD q o0).t.seq) + 1)).2)), .int .i64 (((recsOf y_5.jt (((y_5.l.getD q o0).t.seq) + 1)).2 : Nat) : Int)]) rfl rfl rfl rfl Tryz.sizeOf29 rfl rfl (Nat.le_of_ble_eq_true rfl) rfl) ?_
    rintro _ _ rfl
    refine JL.nil ?_
    refine JQ.seq ?_
    refine JC.seq ?_
    refine JC.region ?_
    refine JL.ld rfl (LO.loadK 4 (vs := [.slice y_5.a y_5.l.length y_5.c, str (y_5.jt.take ((recsOf y_5.jt (((y_5.l.getD q o0).t.seq) + 1)).2)), .int .i64 (((recsOf y_5.jt (((y_5.l.getD q o0).t.seq) + 1)).2 : Nat) : Int)]) rfl rfl Tryz.isAgg31 Tryz.sizeOf31 rfl rfl) ?_
    refine JL.op rfl (JO.store 3 (vs := [.slice y_5.a y_5.l.length y_5.c, str (y_5.jt.take ((recsOf y_5.jt (((y_5.l.getD q o0).t.seq) + 1)).2)), .int .i64 (((recsOf y_5.jt (((y_5.l.getD q o0).t.seq) + 1)).2 : Nat) : Int)]) (cs' := [.slice y_5.a y_5.l.length y_5.c, str (y_5.jt.take ((recsOf y_5.jt (((y_5.l.getD q o0).t.seq) + 1)).2)), .int .i64 (((recsOf y_5.jt (((y_5.l.getD q o0).t.seq) + 1)).2 : Nat) : Int)]) rfl rfl rfl rfl Tryz.sizeOf31 rfl rfl (Nat.le_of_ble_eq_true rfl) rfl) ?_
    rintro _ _ rfl
    refine JL.nil ?_
    refine JQ.seq ?_
    refine JC.ret ?_
    refine JQ.ghost (L' := [Res.rows (rdsOS y_5.a y_5.c y_5.l), Res.rows (rdsRS a_13 c_14 y_15), bk b_4 31 [.slice y_5.a y_5.l.length y_5.c, str (y_5.jt.take ((recsOf y_5.jt (((y_5.l.getD q o0).t.seq) + 1)).2)), .int .i64 (((recsOf y_5.jt (((y_5.l.getD q o0).t.seq) + 1)).2 : Nat) : Int)], bk b_3 31 [.slice y_5.a y_5.l.length y_5.c, str (y_5.jt.take ((recsOf y_5.jt (((y_5.l.getD q o0).t.seq) + 1)).2)), .int .i64 (((recsOf y_5.jt (((y_5.l.getD q o0).t.seq) + 1)).2 : Nat) : Int)]]) (fun w hw => hw.consR (r := ⟨.slice y_5.a y_5.l.length y_5.c, 60, 3, y_5.l.length, y_5.l.flatMap encO⟩) (A := y_5.l.flatMap rdsO) [1, 1] rfl) ?_
    refine Done.one (.inl rfl) rfl (RV.cell1 (LO.loadK 2 (vs := [.slice y_5.a y_5.l.length y_5.c, str (y_5.jt.take ((recsOf y_5.jt (((y_5.l.getD q o0).t.seq) + 1)).2)), .int .i64 (((recsOf y_5.jt (((y_5.l.getD q o0).t.seq) + 1)).2 : Nat) : Int)]) rfl rfl Tryz.isAgg31 Tryz.sizeOf31 rfl rfl) ⟨_, rfl⟩) (List.sublist_append_left [Res.rows (rdsOS y_5.a y_5.c y_5.l)] [Res.rows (rdsRS a_13 c_14 y_15), bk b_4 31 [.slice y_5.a y_5.l.length y_5.c, str (y_5.jt.take ((recsOf y_5.jt (((y_5.l.getD q o0).t.seq) + 1)).2)), .int .i64 (((recsOf y_5.jt (((y_5.l.getD q o0).t.seq) + 1)).2 : Nat) : Int)], bk b_3 31 [.slice y_5.a y_5.l.length y_5.c, str (y_5.jt.take ((recsOf y_5.jt (((y_5.l.getD q o0).t.seq) + 1)).2)), .int .i64 (((recsOf y_5.jt (((y_5.l.getD q o0).t.seq) + 1)).2 : Nat) : Int)]]) ?_
    exact ⟨(⟨y_5.a, y_5.c, y_5.l, y_5.jt.take ((recsOf y_5.jt (((y_5.l.getD q o0).t.seq) + 1)).2), (((recsOf y_5.jt (((y_5.l.getD q o0).t.seq) + 1)).2 : Nat) : Int)⟩ : DX), (clean_dat (y := y_5) (d := y_5) rfl h_7 (by rw [← recD_of hmost])).trans (congrArg DD.clean hy_6), rfl, rfl⟩
  · skip
    refine JC.condT (congrArg Value.bool (congrArg Bool.not h_7)) ?_
    refine JC.seq ?_
    refine JC.region ?_
    refine JL.ld rfl (LO.loadK 2 (vs := [.slice y_5.a y_5.l.length y_5.c, str y_5.jt, .int .i64 y_5.js]) rfl rfl Tryz.isAgg31 Tryz.sizeOf31 rfl rfl) ?_
    refine JL.op rfl (JO.store 1 (vs := [.slice y_5.a y_5.l.length y_5.c, str y_5.jt, .int .i64 y_5.js]) (cs' := [.slice y_5.a y_5.l.length y_5.c, str y_5.jt, .int .i64 y_5.js]) rfl rfl rfl rfl Tryz.sizeOf31 rfl rfl (Nat.le_of_ble_eq_true rfl) rfl) ?_
    rintro _ _ rfl
    refine JL.nil ?_
    refine JQ.seq ?_
    refine JC.ret ?_
    refine JQ.thenRet ?_
    refine Done.one (.inl rfl) rfl (RV.cell1 (LO.loadK 1 (vs := [.slice y_5.a y_5.l.length y_5.c, str y_5.jt, .int .i64 y_5.js]) rfl rfl Tryz.isAgg31 Tryz.sizeOf31 rfl rfl) ⟨_, rfl⟩) (List.sublist_append_left [Res.rows (rdsD y_5)] [bk b_4 31 [.slice y_5.a y_5.l.length y_5.c, str y_5.jt, .int .i64 y_5.js], bk b_3 31 [.slice y_5.a y_5.l.length y_5.c, str y_5.jt, .int .i64 y_5.js]]) ?_
    exact ⟨y_5, by rw [hy_6, clean_not (by rw [← hy_6]; exact h_7)], rfl, rfl⟩

end Go.Proofs.YtjncpgcccgdeiaaGreatDoor
