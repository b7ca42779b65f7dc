/-
  laws.FnExactKernelNew walked: it returns true.
-/
import Derived.Test.YtkmpmjficoohkaaGreatDoorS48NEW
set_option linter.unusedSimpArgs false
set_option linter.unusedVariables false
set_option linter.unnecessarySimpa false
namespace Go.Proofs.YtkmpmjficoohkaaGreatDoor
open Go Go.RowKit
attribute [local irreducible] JL JC JQ JO LO PO JA JX Ct

set_option maxRecDepth 4000 in
set_option maxHeartbeats 2000000 in
theorem L_KernelNew  :
    Ct Tryz.prog 3 [] [] (fun w => True) (fun v A' => v = .bool true ∧ A' = []) := by
  refine Ct.intro Tryz.func3 rfl Tryz.ntmps3 (lb rfl) fun w0 hpre => ?_
  refine jC <| jF <| jA (jG (v := .bool false) rfl) <| jE <| jB <| jC <| jF ?_
  refine jI rfl (jR [] Tryz.call4 rfl (Y_specKernelNew) rfl (fun _ _ => trivial)) ?_
  rintro _ _ ⟨_, ⟨hb_3, y_1, hy_2, rfl, rfl⟩, rfl⟩
  have hl_4 : y_1.dat.lim 1000000000 := by rw [hy_2]; exact (KD.new_lim hb_3)
  have hc_5 : y_1.dat.cnt ≤ 100 := by rw [hy_2]; exact (KD.new_cnt hb_3)
  have hz_6 : y_1.cnt ≤ 100 := by rw [KX.cnt_dat]; omega
  refine jI rfl (JO.alloc (z := .agg #[.slice none 0 0, .slice none 0 0, .slice none 0 0, str [], iv 0, iv 0, iv 0, iv 0, .slice none 0 0, .slice none 0 0, .bool false]) (cs := [.slice none 0 0, .slice none 0 0, .slice none 0 0, str [], iv 0, iv 0, iv 0, iv 0, .slice none 0 0, .slice none 0 0, .bool false]) Tryz.zeroValue32 rfl) ?_
  rintro _ _ ⟨b_7, rfl, rfl⟩
  refine jI rfl (JO.store 0 (vs := [.slice y_1.a0 y_1.store.length y_1.c0, .slice y_1.a1 y_1.txs.length y_1.c1, .slice y_1.dk.a y_1.dk.l.length y_1.dk.c, str y_1.dk.jt, iv y_1.dk.js, iv y_1.seq, iv y_1.next, iv y_1.time, .slice y_1.a2 y_1.hist.length y_1.c2, .slice y_1.a3 y_1.seen.length y_1.c3, .bool y_1.room]) (cs' := [.slice y_1.a0 y_1.store.length y_1.c0, .slice y_1.a1 y_1.txs.length y_1.c1, .slice y_1.dk.a y_1.dk.l.length y_1.dk.c, str y_1.dk.jt, iv y_1.dk.js, iv y_1.seq, iv y_1.next, iv y_1.time, .slice y_1.a2 y_1.hist.length y_1.c2, .slice y_1.a3 y_1.seen.length y_1.c3, .bool y_1.room]) rfl rfl rfl rfl kY rfl rfl (lb rfl) rfl) ?_
  rintro _ _ rfl
  refine jE <| jB <| jC <| jF ?_
  refine jI rfl (jR [] Tryz.call5 rfl (Y_implKernelNew) rfl (fun _ _ => trivial)) ?_
  rintro _ _ ⟨_, ⟨hb_10, y_8, hy_9, rfl, rfl⟩, rfl⟩
  have hl_11 : y_8.dat.lim 1000000000 := by rw [hy_9]; exact (KD.new_lim hb_10)
  have hc_12 : y_8.dat.cnt ≤ 100 := by rw [hy_9]; exact (KD.new_cnt hb_10)
  have hz_13 : y_8.cnt ≤ 100 := by rw [KX.cnt_dat]; omega
  refine jI rfl (JO.alloc (z := .agg #[.slice none 0 0, .slice none 0 0, .slice none 0 0, str [], iv 0, iv 0, iv 0, iv 0, .slice none 0 0, .slice none 0 0, .bool false]) (cs := [.slice none 0 0, .slice none 0 0, .slice none 0 0, str [], iv 0, iv 0, iv 0, iv 0, .slice none 0 0, .slice none 0 0, .bool false]) Tryz.zeroValue32 rfl) ?_
  rintro _ _ ⟨b_14, rfl, rfl⟩
  refine jI rfl (JO.store 0 (vs := [.slice y_8.a0 y_8.store.length y_8.c0, .slice y_8.a1 y_8.txs.length y_8.c1, .slice y_8.dk.a y_8.dk.l.length y_8.dk.c, str y_8.dk.jt, iv y_8.dk.js, iv y_8.seq, iv y_8.next, iv y_8.time, .slice y_8.a2 y_8.hist.length y_8.c2, .slice y_8.a3 y_8.seen.length y_8.c3, .bool y_8.room]) (cs' := [.slice y_8.a0 y_8.store.length y_8.c0, .slice y_8.a1 y_8.txs.length y_8.c1, .slice y_8.dk.a y_8.dk.l.length y_8.dk.c, str y_8.dk.jt, iv y_8.dk.js, iv y_8.seq, iv y_8.next, iv y_8.time, .slice y_8.a2 y_8.hist.length y_8.c2, .slice y_8.a3 y_8.seen.length y_8.c3, .bool y_8.room]) rfl rfl rfl rfl kY rfl rfl (lb rfl) rfl) ?_
  rintro _ _ rfl
  refine jE <| jB <| jC <| jC <| jF <| jP (jr 0 (vs := [.slice y_8.a0 y_8.store.length y_8.c0, .slice y_8.a1 y_8.txs.length y_8.c1, .slice y_8.dk.a y_8.dk.l.length y_8.dk.c, str y_8.dk.jt, iv y_8.dk.js, iv y_8.seq, iv y_8.next, iv y_8.time, .slice y_8.a2 y_8.hist.length y_8.c2, .slice y_8.a3 y_8.seen.length y_8.c3, .bool y_8.room]) rfl rfl Tryz.isAgg32 kY rfl rfl) <| jP (jr 2 (vs := [.slice y_1.a0 y_1.store.length y_1.c0, .slice y_1.a1 y_1.txs.length y_1.c1, .slice y_1.dk.a y_1.dk.l.length y_1.dk.c, str y_1.dk.jt, iv y_1.dk.js, iv y_1.seq, iv y_1.next, iv y_1.time, .slice y_1.a2 y_1.hist.length y_1.c2, .slice y_1.a3 y_1.seen.length y_1.c3, .bool y_1.room]) rfl rfl Tryz.isAgg32 kY rfl rfl) ?_
  refine jI rfl (jR [] Tryz.call6 rfl (C_eqKernel y_8 y_1 hl_11) rfl (fun w hw => ⟨hw.seeRows 1 rfl, hw.seeRows 3 rfl⟩)) ?_
  rintro _ _ ⟨_, ⟨rfl, rfl⟩, rfl⟩
  refine jA (jq rfl) <| jE <| jB ?_
  have h_15 : y_8.dat = y_1.dat := (by simp only [hy_2, hy_9])
  refine jL (cB (cN (dT h_15))) <| jM <| jB <| jC <| jF <| jA (jG (v := iv 1) rfl) <| jE <| jB <| jC <| jF ?_
  refine jP (jr 0 (vs := [.slice y_8.a0 y_8.store.length y_8.c0, .slice y_8.a1 y_8.txs.length y_8.c1, .slice y_8.dk.a y_8.dk.l.length y_8.dk.c, str y_8.dk.jt, iv y_8.dk.js, iv y_8.seq, iv y_8.next, iv y_8.time, .slice y_8.a2 y_8.hist.length y_8.c2, .slice y_8.a3 y_8.seen.length y_8.c3, .bool y_8.room]) rfl rfl Tryz.isAgg32 kY rfl rfl) <| jA (jD (v := iv 1) rfl) ?_
  refine jI rfl (jR [1] Tryz.call7 rfl (C_markKernel y_8 1 (by omega) (by omega) hl_11) rfl (fun _ _ => trivial)) ?_
  rintro _ _ ⟨_, ⟨rfl, rfl⟩, rfl⟩
  refine jA (jG (v := iv ((1 + y_8.cnt : Nat) : Int)) rfl) <| jE <| jB <| jC <| jF <| jA (jG (v := iv 1) rfl) <| jE <| jB <| jC <| jF ?_
  refine jP (jr 1 (vs := [.slice y_8.a0 y_8.store.length y_8.c0, .slice y_8.a1 y_8.txs.length y_8.c1, .slice y_8.dk.a y_8.dk.l.length y_8.dk.c, str y_8.dk.jt, iv y_8.dk.js, iv y_8.seq, iv y_8.next, iv y_8.time, .slice y_8.a2 y_8.hist.length y_8.c2, .slice y_8.a3 y_8.seen.length y_8.c3, .bool y_8.room]) rfl rfl Tryz.isAgg32 kY rfl rfl) <| jA (jD (v := iv 1) rfl) ?_
  refine jI rfl (jR [] Tryz.call8 rfl (C_heldKernel y_8 1 (by omega) (by omega) hl_11) rfl (fun w hw => hw.seeRows 0 rfl)) ?_
  rintro _ _ ⟨_, ⟨rfl, rfl⟩, rfl⟩
  refine jA (jG (v := iv ((1 + y_8.cnt : Nat) : Int)) rfl) <| jE <| jB <| jC <| jC <| jF <| jA (jD (v := iv ((1 + y_8.cnt : Nat) : Int)) rfl) <| jA (jb rfl rfl) <| jE <| jB ?_
  have h_16 : ¬ (((1 + y_8.cnt : Nat) : Int) < 0) := (by omega)
  refine jL (cB (dF h_16)) <| jM <| jB <| jC <| jC <| jF <| jA (jD (v := iv ((1 + y_8.cnt : Nat) : Int)) rfl) <| jA (jD (v := iv ((1 + y_8.cnt : Nat) : Int)) rfl) <| jA (jf rfl rfl) <| jE ?_
  refine jB <| jL (cB (cN (dT rfl))) <| jM <| jB <| jC <| jF ?_
  refine jI rfl (jR [] Tryz.call5 rfl (Y_implKernelNew) rfl (fun _ _ => trivial)) ?_
  rintro _ _ ⟨_, ⟨hb_19, y_17, hy_18, rfl, rfl⟩, rfl⟩
  have hl_20 : y_17.dat.lim 1000000000 := by rw [hy_18]; exact (KD.new_lim hb_19)
  have hc_21 : y_17.dat.cnt ≤ 100 := by rw [hy_18]; exact (KD.new_cnt hb_19)
  have hz_22 : y_17.cnt ≤ 100 := by rw [KX.cnt_dat]; omega
  refine jI rfl (JO.alloc (z := .agg #[.slice none 0 0, .slice none 0 0, .slice none 0 0, str [], iv 0, iv 0, iv 0, iv 0, .slice none 0 0, .slice none 0 0, .bool false]) (cs := [.slice none 0 0, .slice none 0 0, .slice none 0 0, str [], iv 0, iv 0, iv 0, iv 0, .slice none 0 0, .slice none 0 0, .bool false]) Tryz.zeroValue32 rfl) ?_
  rintro _ _ ⟨b_23, rfl, rfl⟩
  refine jI rfl (JO.store 0 (vs := [.slice y_17.a0 y_17.store.length y_17.c0, .slice y_17.a1 y_17.txs.length y_17.c1, .slice y_17.dk.a y_17.dk.l.length y_17.dk.c, str y_17.dk.jt, iv y_17.dk.js, iv y_17.seq, iv y_17.next, iv y_17.time, .slice y_17.a2 y_17.hist.length y_17.c2, .slice y_17.a3 y_17.seen.length y_17.c3, .bool y_17.room]) (cs' := [.slice y_17.a0 y_17.store.length y_17.c0, .slice y_17.a1 y_17.txs.length y_17.c1, .slice y_17.dk.a y_17.dk.l.length y_17.dk.c, str y_17.dk.jt, iv y_17.dk.js, iv y_17.seq, iv y_17.next, iv y_17.time, .slice y_17.a2 y_17.hist.length y_17.c2, .slice y_17.a3 y_17.seen.length y_17.c3, .bool y_17.room]) rfl rfl rfl rfl kY rfl rfl (lb rfl) rfl) ?_
  rintro _ _ rfl
  refine jE <| jB <| jC <| jC <| jF <| jP (jr 0 (vs := [.slice y_17.a0 y_17.store.length y_17.c0, .slice y_17.a1 y_17.txs.length y_17.c1, .slice y_17.dk.a y_17.dk.l.length y_17.dk.c, str y_17.dk.jt, iv y_17.dk.js, iv y_17.seq, iv y_17.next, iv y_17.time, .slice y_17.a2 y_17.hist.length y_17.c2, .slice y_17.a3 y_17.seen.length y_17.c3, .bool y_17.room]) rfl rfl Tryz.isAgg32 kY rfl rfl) <| jP (jr 4 (vs := [.slice y_1.a0 y_1.store.length y_1.c0, .slice y_1.a1 y_1.txs.length y_1.c1, .slice y_1.dk.a y_1.dk.l.length y_1.dk.c, str y_1.dk.jt, iv y_1.dk.js, iv y_1.seq, iv y_1.next, iv y_1.time, .slice y_1.a2 y_1.hist.length y_1.c2, .slice y_1.a3 y_1.seen.length y_1.c3, .bool y_1.room]) rfl rfl Tryz.isAgg32 kY rfl rfl) ?_
  refine jI rfl (jR [] Tryz.call6 rfl (C_eqKernel y_17 y_1 hl_20) rfl (fun w hw => ⟨hw.seeRows 1 rfl, hw.seeRows 5 rfl⟩)) ?_
  rintro _ _ ⟨_, ⟨rfl, rfl⟩, rfl⟩
  refine jA (jq rfl) <| jE <| jB ?_
  have h_24 : y_17.dat = y_1.dat := (by simp only [hy_2, hy_9, hy_18])
  refine jL (cB (cN (dT h_24))) <| jM <| jB <| jC <| jF <| jA (jG (v := iv 1) rfl) <| jE <| jB <| jC <| jF ?_
  refine jP (jr 3 (vs := [.slice y_8.a0 y_8.store.length y_8.c0, .slice y_8.a1 y_8.txs.length y_8.c1, .slice y_8.dk.a y_8.dk.l.length y_8.dk.c, str y_8.dk.jt, iv y_8.dk.js, iv y_8.seq, iv y_8.next, iv y_8.time, .slice y_8.a2 y_8.hist.length y_8.c2, .slice y_8.a3 y_8.seen.length y_8.c3, .bool y_8.room]) rfl rfl Tryz.isAgg32 kY rfl rfl) <| jA (jD (v := iv 1) rfl) ?_
  refine jI rfl (jR [] Tryz.call8 rfl (C_heldKernel y_8 1 (by omega) (by omega) hl_11) rfl (fun w hw => hw.seeRows 2 rfl)) ?_
  rintro _ _ ⟨_, ⟨rfl, rfl⟩, rfl⟩
  refine jA (jG (v := iv ((1 + y_8.cnt : Nat) : Int)) rfl) <| jE <| jB <| jC <| jC <| jF <| jA (jD (v := iv ((1 + y_8.cnt : Nat) : Int)) rfl) <| jA (jb rfl rfl) <| jE <| jB ?_
  refine jL (cB (dF h_16)) <| jM <| jB <| jC <| jC <| jF <| jA (jD (v := iv ((1 + y_8.cnt : Nat) : Int)) rfl) <| jA (jD (v := iv ((1 + y_8.cnt : Nat) : Int)) rfl) <| jA (jf rfl rfl) <| jE ?_
  refine jB <| jL (cB (cN (dT rfl))) <| jM <| jB <| jC <| jF <| jA (jG (v := .bool true) rfl) <| jE <| jB <| jK ?_
  refine jN (.inl rfl) rfl (jJ (v := .bool true) rfl) (List.nil_sublist _) ?_
  exact ⟨rfl, rfl⟩

end Go.Proofs.YtkmpmjficoohkaaGreatDoor
