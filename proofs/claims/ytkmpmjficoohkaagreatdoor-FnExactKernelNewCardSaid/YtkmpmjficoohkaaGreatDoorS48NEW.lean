/-
  A new kernel, by the program and by the reference (part 48).
-/
import Derived.Test.YtkmpmjficoohkaaGreatDoorSc
import Derived.Test.YtkmpmjficoohkaaGreatDoorFlat
import Derived.Test.YtkmpmjficoohkaaGreatDoorDatN
set_option linter.unusedSimpArgs false
set_option linter.unusedVariables false
set_option linter.unnecessarySimpa false
namespace Go.Proofs.YtkmpmjficoohkaaGreatDoor
open Go Go.RowKit
attribute [local irreducible] JL JC JQ JO LO PO JA JX Ct

theorem Y_iBoot  :
    Ct Tryz.prog 11 [] [] (fun _ => True) (fun v A' => boot.length ≤ 3 ∧ ∃ a c, v = .slice a boot.length c ∧ A' = [rC a c boot]) := by
  refine Ct.intro Tryz.func11 rfl Tryz.ntmps11 (lb rfl) fun w0 hpre => ?_
  refine jC <| jF <| jA (jG (v := .slice none 0 0) rfl) <| jE <| jB <| jC <| jF ?_
  refine jI rfl (JO.alloc (z := zM) (cs := zC) Tryz.zeroValue52 rfl) ?_
  rintro _ _ ⟨b_1, rfl, rfl⟩
  refine jE <| jB <| jC <| jF <| JL.nilRow 62 2 <| JL.nilRow 9 1 <| JL.nilRow 9 1 ?_
  refine jI rfl (jR [3, 2, 0, 0] Tryz.call30 rfl (N_spawn b_1 ⟨none, 0, none, 0, none, 0⟩ ⟨[], [], []⟩ (ok0 0) (by omega) (by omega) 0 (by omega)) rfl (fun _ _ => trivial)) ?_
  rintro _ _ ⟨_, ⟨x_2, m_3, r_6, r_7, e_4, k_5, f_8, f_9, rfl, rfl⟩, rfl⟩
  refine jE <| jB <| jC <| jF <| jA (jS fo52_0 rfl) <| jP (jU 0 (v := .slice x_2.a0 m_3.s.length x_2.c0) rfl rfl kX rfl) <| jA (jG (v := .slice x_2.a0 m_3.s.length x_2.c0) rfl) <| jE <| jB <| jK ?_
  refine JQ.perm (pick_perm [1] (A := [rC x_2.a0 x_2.c0 m_3.s]) (F := [mb b_1 x_2 m_3, rS x_2.a1 x_2.c1 m_3.r, rS x_2.a2 x_2.c2 m_3.w]) rfl).symm <| jN (.inl rfl) rfl (jJ (v := .slice x_2.a0 m_3.s.length x_2.c0) rfl) (tS 1 _) ?_
  have hb := boot_eq e_4
  exact ⟨by rw [hb]; exact k_5.1, x_2.a0, x_2.c0, by rw [hb] <;> rfl, by rw [hb] <;> rfl⟩

theorem Y_machOf (sa : Option Addr) (sc : Nat) (s : List Cell) (hs : s.length ≤ 1000000000) :
    Ct Tryz.prog 29 [.slice sa s.length sc] [] (fun w => Sees w (.slice sa s.length sc) 2 s.length (s.flatMap encC)) (fun v A' => ∃ a c, v = .agg #[.slice a s.length c, .slice none 0 0, .slice none 0 0] ∧ A' = [rC a c s]) := by
  refine Ct.intro Tryz.func29 rfl Tryz.ntmps29 (lb rfl) fun w0 hpre => ?_
  have hs_sa : Sees w0 _ _ _ _ := hpre
  refine jC <| jF ?_
  refine jI rfl (JO.alloc (z := zM) (cs := zC) Tryz.zeroValue52 rfl) ?_
  rintro _ _ ⟨b_1, rfl, rfl⟩
  refine jE <| jB <| jC <| jF ?_
  refine jI rfl (jy (ps := []) (cur := #[]) kD kG kW rfl (by kernel_rfl) (by decide) (by decide)) ?_
  rintro _ _ ⟨a_2, rfl, rfl⟩
  refine jA (jD (v := .slice sa s.length sc) rfl) ?_
  refine jI rfl (JO.append' 0 (q := s.length) (news := s.flatMap encC) (n' := s.length) (cs' := s.flatMap encC) rfl kD kD ka rfl (by' := 32) rfl rfl rfl rfl rfl (fun w hw => Src.sees (hw.seeOut_ hs_sa nM) (oneC _)) (by (try simp only [LE]); omega) (by (try simp only [LE]); omega) (by (try simp only [List.length_take, List.length_drop]); first | rfl | omega) rfl) ?_
  rintro _ _ ⟨a_3, c_4, rfl, rfl⟩
  refine jA (PO.build (ps := [(0, .slice a_3 s.length c_4)]) (cs := [.slice a_3 s.length c_4, .slice none 0 0, .slice none 0 0]) rfl (by kernel_rfl)) ?_
  refine jI rfl (JO.store 1 (vs := [.slice a_3 s.length c_4, .slice none 0 0, .slice none 0 0]) (cs' := [.slice a_3 s.length c_4, .slice none 0 0, .slice none 0 0]) rfl rfl rfl rfl kU rfl rfl (lb rfl) rfl) ?_
  rintro _ _ rfl
  refine jE <| jB <| jK <| jN (.inl rfl) rfl (RV.cell1 (jr 1 (vs := [.slice a_3 s.length c_4, .slice none 0 0, .slice none 0 0]) rfl rfl Tryz.isAgg52 kU rfl rfl) ⟨_, rfl⟩) (tS 1 _) ?_
  exact ⟨a_3, c_4, rfl, rfl⟩

theorem Y_sBoot  :
    Ct Tryz.prog 9 [] [] (fun _ => True) (fun v A' => boot.length ≤ 3 ∧ ∃ a c, v = .slice a boot.length c ∧ A' = [rC a c boot]) := by
  refine Ct.intro Tryz.func9 rfl Tryz.ntmps9 (lb rfl) fun w0 hpre => ?_
  refine jC <| jF <| jA (jG (v := .slice none 0 0) rfl) <| jE <| jB <| jC <| jF ?_
  refine jI rfl (jy (ps := []) (cur := #[]) kD kG kW rfl (by kernel_rfl) (by decide) (by decide)) ?_
  rintro _ _ ⟨a_1, rfl, rfl⟩
  refine jI rfl (jR [] Tryz.call29 rfl (Y_machOf a_1 0 ([] : List Cell) (by simp)) rfl (fun w hw => hw.see (i := 0) rfl)) ?_
  rintro _ _ ⟨_, ⟨a_2, c_3, rfl, rfl⟩, rfl⟩
  refine JL.nilRow 9 1 <| JL.nilRow 9 1 ?_
  refine jI rfl (jR [2, 0, 0] Tryz.call28 rfl (M_spawn ⟨a_2, c_3, none, 0, none, 0⟩ ⟨[], [], []⟩ (ok0 0) (by omega) (by omega) 0 (by omega)) rfl (fun _ _ => trivial)) ?_
  rintro _ _ ⟨_, ⟨x_4, m_5, r_8, r_9, e_6, k_7, f_10, f_11, rfl, rfl⟩, rfl⟩
  refine jA (jD (v := .tuple #[mv x_4 m_5, iv r_8, iv r_9]) rfl) <| jA (PO.extract (v := mv x_4 m_5) rfl rfl) <| jA (PO.extract (v := iv r_8) rfl rfl) <| jA (PO.extract (v := iv r_9) rfl rfl) ?_
  refine jI rfl (JO.alloc (z := zM) (cs := zC) Tryz.zeroValue52 rfl) ?_
  rintro _ _ ⟨b_12, rfl, rfl⟩
  refine jI rfl (JO.stM 0 x_4 m_5 rfl rfl rfl rfl) ?_
  rintro _ _ rfl
  refine jA (jG (v := iv r_8) rfl) <| jA (jG (v := iv r_9) rfl) <| jE <| jB <| jC <| jF <| jA (jS fo52_0 rfl) <| jP (jU 0 (v := .slice x_4.a0 m_5.s.length x_4.c0) rfl rfl kX rfl) <| jA (jG (v := .slice x_4.a0 m_5.s.length x_4.c0) rfl) <| jE ?_
  refine jB <| jK <| JQ.perm (pick_perm [1] (A := [rC x_4.a0 x_4.c0 m_5.s]) (F := [mb b_12 x_4 m_5, rS x_4.a1 x_4.c1 m_5.r, rS x_4.a2 x_4.c2 m_5.w, Res.row (.slice a_1 0 0) 62 2 0 (([] : List Cell).flatMap encC)]) rfl).symm <| jN (.inl rfl) rfl (jJ (v := .slice x_4.a0 m_5.s.length x_4.c0) rfl) (tS 1 _) ?_
  have hb := boot_eq e_6
  exact ⟨by rw [hb]; exact k_7.1, x_4.a0, x_4.c0, by rw [hb] <;> rfl, by rw [hb] <;> rfl⟩

set_option maxRecDepth 4000 in
set_option maxHeartbeats 1000000 in
theorem Y_implDiskNew (a : Option Addr) (c : Nat) (s : List Cell) (hs : s.length ≤ 1000000000) :
    Ct Tryz.prog 12 [.slice a s.length c] [] (fun w => Sees w (.slice a s.length c) 2 s.length (s.flatMap encC)) (fun v A' => ∃ d : DX, d.dat = DD.new s ∧ v = .agg #[.slice d.a d.l.length d.c, str d.jt, .int .i64 d.js] ∧ A' = [.rows (rdsD d)]) := by
  refine Ct.intro Tryz.func12 rfl Tryz.ntmps12 (lb rfl) fun w0 hpre => ?_
  have hs_a : Sees w0 _ _ _ _ := hpre
  refine jC <| jF ?_
  refine jI rfl (JO.alloc (z := .agg #[.slice none 0 0, str [], iv 0]) (cs := [.slice none 0 0, str [], iv 0]) Tryz.zeroValue28 rfl) ?_
  rintro _ _ ⟨b_1, rfl, rfl⟩
  refine jE <| jB <| jC <| jF <| jA (jD (v := .slice a s.length c) rfl) ?_
  refine jI rfl (jR [] Tryz.call31 rfl (C_cloneC a c s (by omega)) rfl (fun w hw => hw.seeOut_ hs_a nM)) ?_
  rintro _ _ ⟨_, ⟨a_2, c_3, rfl, rfl⟩, rfl⟩
  refine jA (PO.build (ps := [(1, .slice a_2 s.length c_3), (2, .bool true)]) (cs := [iv 0, .slice a_2 s.length c_3, .bool true]) rfl (by kernel_rfl)) <| jA (PO.build (ps := []) (cs := [iv 0, .slice none 0 0, .bool false]) rfl (by kernel_rfl)) ?_
  refine jI rfl (jy (ps := [(0, .agg #[iv 0, .slice a_2 s.length c_3, .bool true]), (1, .agg #[iv 0, .slice none 0 0, .bool false])]) (cur := #[iv 0, .slice a_2 s.length c_3, .bool true, iv 0, .slice none 0 0, .bool false]) kV kc Tryz.zeroValue57 rfl (by kernel_rfl) (by decide) (by decide)) ?_
  rintro _ _ ⟨a_4, rfl, rfl⟩
  refine jA (PO.build (ps := [(0, .slice a_4 2 2)]) (cs := [.slice a_4 2 2, str [], iv 0]) rfl (by kernel_rfl)) ?_
  refine jI rfl (JO.store 2 (vs := [.slice a_4 2 2, str [], iv 0]) (cs' := [.slice a_4 2 2, str [], iv 0]) rfl rfl rfl rfl Tryz.sizeOf28 rfl rfl (lb rfl) rfl) ?_
  rintro _ _ rfl
  refine jE <| jB <| jK <| JQ.nilRow 62 2 <| kC (L' := [Res.rows (([(⟨⟨a_2, c_3⟩, ⟨0, s, true⟩⟩ : OX), (⟨⟨none, 0⟩, ⟨0, [], false⟩⟩ : OX)] : List OX).flatMap rdsO), Res.row (.slice a_4 2 2) 57 3 2 (([(⟨⟨a_2, c_3⟩, ⟨0, s, true⟩⟩ : OX), (⟨⟨none, 0⟩, ⟨0, [], false⟩⟩ : OX)] : List OX).flatMap encO), bk b_1 28 [.slice a_4 2 2, str [], iv 0]]) (fun w hw => hw.closeR (A := ([⟨.slice a_2 s.length c_3, 62, 2, s.length, s.flatMap encC⟩, ⟨.slice none 0 0, 62, 2, 0, ([] : List Cell).flatMap encC⟩] : List RD)) [2, 0] rfl) <| kC (L' := [Res.rows (rdsOS a_4 2 ([(⟨⟨a_2, c_3⟩, ⟨0, s, true⟩⟩ : OX), (⟨⟨none, 0⟩, ⟨0, [], false⟩⟩ : OX)] : List OX)), bk b_1 28 [.slice a_4 2 2, str [], iv 0]]) (fun w hw => hw.consR (r := ⟨.slice a_4 2 2, 57, 3, 2, ([(⟨⟨a_2, c_3⟩, ⟨0, s, true⟩⟩ : OX), (⟨⟨none, 0⟩, ⟨0, [], false⟩⟩ : OX)] : List OX).flatMap encO⟩) (A := ([(⟨⟨a_2, c_3⟩, ⟨0, s, true⟩⟩ : OX), (⟨⟨none, 0⟩, ⟨0, [], false⟩⟩ : OX)] : List OX).flatMap rdsO) [1, 0] rfl) <| jN (.inl rfl) rfl (RV.cell1 (jr 1 (vs := [.slice a_4 2 2, str [], iv 0]) rfl rfl Tryz.isAgg28 Tryz.sizeOf28 rfl rfl) ⟨_, rfl⟩) (tS 1 _) ?_
  exact ⟨(⟨a_4, 2, ([(⟨⟨a_2, c_3⟩, ⟨0, s, true⟩⟩ : OX), (⟨⟨none, 0⟩, ⟨0, [], false⟩⟩ : OX)] : List OX), [], 0⟩ : DX), rfl, rfl, rfl⟩

set_option maxRecDepth 4000 in
set_option maxHeartbeats 1000000 in
theorem Y_specDiskNew (a : Option Addr) (c : Nat) (s : List Cell) (hs : s.length ≤ 1000000000) :
    Ct Tryz.prog 10 [.slice a s.length c] [] (fun w => Sees w (.slice a s.length c) 2 s.length (s.flatMap encC)) (fun v A' => ∃ d : DX, d.dat = DD.new s ∧ v = .agg #[.slice d.a d.l.length d.c, str d.jt, .int .i64 d.js] ∧ A' = [.rows (rdsD d)]) := by
  refine Ct.intro Tryz.func10 rfl Tryz.ntmps10 (lb rfl) fun w0 hpre => ?_
  have hs_a : Sees w0 _ _ _ _ := hpre
  refine jC <| jF ?_
  refine jI rfl (JO.alloc (z := .agg #[.slice none 0 0, str [], iv 0]) (cs := [.slice none 0 0, str [], iv 0]) Tryz.zeroValue28 rfl) ?_
  rintro _ _ ⟨b_1, rfl, rfl⟩
  refine jE <| jB <| jC <| jF ?_
  refine jI rfl (jy (ps := []) (cur := #[]) kD kG kW rfl (by kernel_rfl) (by decide) (by decide)) ?_
  rintro _ _ ⟨a_2, rfl, rfl⟩
  refine jA (jD (v := .slice a s.length c) rfl) ?_
  refine jI rfl (JO.append' 0 (q := s.length) (news := s.flatMap encC) (n' := s.length) (cs' := s.flatMap encC) rfl kD kD ka rfl (by' := 32) rfl rfl rfl rfl rfl (fun w hw => Src.sees (hw.seeOut_ hs_a nM) (oneC _)) (by (try simp only [LE]); omega) (by (try simp only [LE]); omega) (by (try simp only [List.length_take, List.length_drop]); first | rfl | omega) rfl) ?_
  rintro _ _ ⟨a_3, c_4, rfl, rfl⟩
  refine jA (PO.build (ps := [(1, .slice a_3 s.length c_4), (2, .bool true)]) (cs := [iv 0, .slice a_3 s.length c_4, .bool true]) rfl (by kernel_rfl)) <| jA (PO.build (ps := []) (cs := [iv 0, .slice none 0 0, .bool false]) rfl (by kernel_rfl)) ?_
  refine jI rfl (jy (ps := [(0, .agg #[iv 0, .slice a_3 s.length c_4, .bool true]), (1, .agg #[iv 0, .slice none 0 0, .bool false])]) (cur := #[iv 0, .slice a_3 s.length c_4, .bool true, iv 0, .slice none 0 0, .bool false]) kV kc Tryz.zeroValue57 rfl (by kernel_rfl) (by decide) (by decide)) ?_
  rintro _ _ ⟨a_5, rfl, rfl⟩
  refine jA (PO.build (ps := [(0, .slice a_5 2 2)]) (cs := [.slice a_5 2 2, str [], iv 0]) rfl (by kernel_rfl)) ?_
  refine jI rfl (JO.store 2 (vs := [.slice a_5 2 2, str [], iv 0]) (cs' := [.slice a_5 2 2, str [], iv 0]) rfl rfl rfl rfl Tryz.sizeOf28 rfl rfl (lb rfl) rfl) ?_
  rintro _ _ rfl
  refine jE <| jB <| jK <| JQ.nilRow 62 2 <| kC (L' := [Res.rows (([(⟨⟨a_3, c_4⟩, ⟨0, s, true⟩⟩ : OX), (⟨⟨none, 0⟩, ⟨0, [], false⟩⟩ : OX)] : List OX).flatMap rdsO), Res.row (.slice a_5 2 2) 57 3 2 (([(⟨⟨a_3, c_4⟩, ⟨0, s, true⟩⟩ : OX), (⟨⟨none, 0⟩, ⟨0, [], false⟩⟩ : OX)] : List OX).flatMap encO), bk b_1 28 [.slice a_5 2 2, str [], iv 0]]) (fun w hw => hw.closeR (A := ([⟨.slice a_3 s.length c_4, 62, 2, s.length, s.flatMap encC⟩, ⟨.slice none 0 0, 62, 2, 0, ([] : List Cell).flatMap encC⟩] : List RD)) [2, 0] rfl) <| kC (L' := [Res.rows (rdsOS a_5 2 ([(⟨⟨a_3, c_4⟩, ⟨0, s, true⟩⟩ : OX), (⟨⟨none, 0⟩, ⟨0, [], false⟩⟩ : OX)] : List OX)), bk b_1 28 [.slice a_5 2 2, str [], iv 0]]) (fun w hw => hw.consR (r := ⟨.slice a_5 2 2, 57, 3, 2, ([(⟨⟨a_3, c_4⟩, ⟨0, s, true⟩⟩ : OX), (⟨⟨none, 0⟩, ⟨0, [], false⟩⟩ : OX)] : List OX).flatMap encO⟩) (A := ([(⟨⟨a_3, c_4⟩, ⟨0, s, true⟩⟩ : OX), (⟨⟨none, 0⟩, ⟨0, [], false⟩⟩ : OX)] : List OX).flatMap rdsO) [1, 0] rfl) <| jN (.inl rfl) rfl (RV.cell1 (jr 1 (vs := [.slice a_5 2 2, str [], iv 0]) rfl rfl Tryz.isAgg28 Tryz.sizeOf28 rfl rfl) ⟨_, rfl⟩) (tS 1 _) ?_
  exact ⟨(⟨a_5, 2, ([(⟨⟨a_3, c_4⟩, ⟨0, s, true⟩⟩ : OX), (⟨⟨none, 0⟩, ⟨0, [], false⟩⟩ : OX)] : List OX), [], 0⟩ : DX), rfl, rfl, rfl⟩

set_option maxRecDepth 4000 in
set_option maxHeartbeats 1000000 in
theorem Y_implKernelNew  :
    Ct Tryz.prog 5 [] [] (fun _ => True) (fun v A' => boot.length ≤ 3 ∧ ∃ y : KX, y.dat = KD.new ∧ v = .agg #[.slice y.a0 y.store.length y.c0, .slice y.a1 y.txs.length y.c1, .slice y.dk.a y.dk.l.length y.dk.c, str y.dk.jt, .int .i64 y.dk.js, .int .i64 y.seq, .int .i64 y.next, .int .i64 y.time, .slice y.a2 y.hist.length y.c2, .slice y.a3 y.seen.length y.c3, .bool y.room] ∧ A' = [.rows (rdsN y)]) := by
  refine Ct.intro Tryz.func5 rfl Tryz.ntmps5 (lb rfl) fun w0 hpre => ?_
  refine jC <| jF ?_
  refine jI rfl (JO.alloc (z := .agg #[.slice none 0 0, .slice none 0 0, .slice none 0 0, str [], iv 0, iv 0, iv 0, iv 0, .slice none 0 0, .slice none 0 0, .bool false]) (cs := [.slice none 0 0, .slice none 0 0, .slice none 0 0, str [], iv 0, iv 0, iv 0, iv 0, .slice none 0 0, .slice none 0 0, .bool false]) Tryz.zeroValue32 rfl) ?_
  rintro _ _ ⟨b_1, rfl, rfl⟩
  refine jE <| jB <| jC <| jF ?_
  refine jI rfl (jR [] Tryz.call11 rfl (Y_iBoot) rfl (fun _ _ => trivial)) ?_
  rintro _ _ ⟨_, ⟨hb_2, a_3, c_4, rfl, rfl⟩, rfl⟩
  refine jI rfl (jR [] Tryz.call11 rfl (Y_iBoot) rfl (fun _ _ => trivial)) ?_
  rintro _ _ ⟨_, ⟨hb_5, a_6, c_7, rfl, rfl⟩, rfl⟩
  refine jI rfl (jR [] Tryz.call12 rfl (Y_implDiskNew a_6 c_7 boot (by omega)) rfl (fun w hw => hw.see (i := 0) rfl)) ?_
  rintro _ _ ⟨_, ⟨d_8, hd_9, rfl, rfl⟩, rfl⟩
  refine jA (PO.build (ps := [(0, .slice a_3 boot.length c_4), (2, .agg #[.slice d_8.a d_8.l.length d_8.c, str d_8.jt, iv d_8.js]), (4, iv 1), (8, .bool true)]) (cs := [.slice a_3 boot.length c_4, .slice none 0 0, .slice d_8.a d_8.l.length d_8.c, str d_8.jt, iv d_8.js, iv 0, iv 1, iv 0, .slice none 0 0, .slice none 0 0, .bool true]) rfl (by kernel_rfl)) ?_
  refine jI rfl (JO.store 3 (vs := [.slice a_3 boot.length c_4, .slice none 0 0, .slice d_8.a d_8.l.length d_8.c, str d_8.jt, iv d_8.js, iv 0, iv 1, iv 0, .slice none 0 0, .slice none 0 0, .bool true]) (cs' := [.slice a_3 boot.length c_4, .slice none 0 0, .slice d_8.a d_8.l.length d_8.c, str d_8.jt, iv d_8.js, iv 0, iv 1, iv 0, .slice none 0 0, .slice none 0 0, .bool true]) rfl rfl rfl rfl kY rfl rfl (lb rfl) rfl) ?_
  rintro _ _ rfl
  refine jE <| jB <| jK <| JQ.nilRow 9 1 <| JQ.nilRow 69 10 <| kC (L' := [Res.rows (([] : List TX).flatMap rdsX), Res.row (.slice none 0 0) 69 10 0 (([] : List TX).flatMap encX), Res.row (.slice none 0 0) 9 1 0 (([] : List Str).map str), Res.rows (rdsD d_8), rC a_6 c_7 boot, rC a_3 c_4 boot, bk b_1 32 [.slice a_3 boot.length c_4, .slice none 0 0, .slice d_8.a d_8.l.length d_8.c, str d_8.jt, iv d_8.js, iv 0, iv 1, iv 0, .slice none 0 0, .slice none 0 0, .bool true]]) (fun w hw => hw.nilR (α := TX) (f := rdsX) [] (B := []) (F := [Res.row (.slice none 0 0) 69 10 0 (([] : List TX).flatMap encX), Res.row (.slice none 0 0) 9 1 0 (([] : List Str).map str), Res.rows (rdsD d_8), rC a_6 c_7 boot, rC a_3 c_4 boot, bk b_1 32 [.slice a_3 boot.length c_4, .slice none 0 0, .slice d_8.a d_8.l.length d_8.c, str d_8.jt, iv d_8.js, iv 0, iv 1, iv 0, .slice none 0 0, .slice none 0 0, .bool true]]) rfl) <| kC (L' := [Res.rows (rdsXS none 0 ([] : List TX)), Res.row (.slice none 0 0) 9 1 0 (([] : List Str).map str), Res.rows (rdsD d_8), rC a_6 c_7 boot, rC a_3 c_4 boot, bk b_1 32 [.slice a_3 boot.length c_4, .slice none 0 0, .slice d_8.a d_8.l.length d_8.c, str d_8.jt, iv d_8.js, iv 0, iv 1, iv 0, .slice none 0 0, .slice none 0 0, .bool true]]) (fun w hw => hw.consR (r := ⟨.slice none 0 0, 69, 10, 0, ([] : List TX).flatMap encX⟩) (A := ([] : List TX).flatMap rdsX) [1, 0] rfl) <| JQ.nilRow 75 8 <| kC (L' := [Res.rows (([] : List EX).flatMap rdsE), Res.row (.slice none 0 0) 75 8 0 (([] : List EX).flatMap encE), Res.rows (rdsXS none 0 ([] : List TX)), Res.row (.slice none 0 0) 9 1 0 (([] : List Str).map str), Res.rows (rdsD d_8), rC a_6 c_7 boot, rC a_3 c_4 boot, bk b_1 32 [.slice a_3 boot.length c_4, .slice none 0 0, .slice d_8.a d_8.l.length d_8.c, str d_8.jt, iv d_8.js, iv 0, iv 1, iv 0, .slice none 0 0, .slice none 0 0, .bool true]]) (fun w hw => hw.nilR (α := EX) (f := rdsE) [] (B := []) (F := [Res.row (.slice none 0 0) 75 8 0 (([] : List EX).flatMap encE), Res.rows (rdsXS none 0 ([] : List TX)), Res.row (.slice none 0 0) 9 1 0 (([] : List Str).map str), Res.rows (rdsD d_8), rC a_6 c_7 boot, rC a_3 c_4 boot, bk b_1 32 [.slice a_3 boot.length c_4, .slice none 0 0, .slice d_8.a d_8.l.length d_8.c, str d_8.jt, iv d_8.js, iv 0, iv 1, iv 0, .slice none 0 0, .slice none 0 0, .bool true]]) rfl) <| kC (L' := [Res.rows (rdsES none 0 ([] : List EX)), Res.rows (rdsXS none 0 ([] : List TX)), Res.row (.slice none 0 0) 9 1 0 (([] : List Str).map str), Res.rows (rdsD d_8), rC a_6 c_7 boot, rC a_3 c_4 boot, bk b_1 32 [.slice a_3 boot.length c_4, .slice none 0 0, .slice d_8.a d_8.l.length d_8.c, str d_8.jt, iv d_8.js, iv 0, iv 1, iv 0, .slice none 0 0, .slice none 0 0, .bool true]]) (fun w hw => hw.consR (r := ⟨.slice none 0 0, 75, 8, 0, ([] : List EX).flatMap encE⟩) (A := ([] : List EX).flatMap rdsE) [1, 0] rfl) ?_
  refine kC (L' := [Res.rows (rdsN (⟨a_3, c_4, boot, none, 0, [], d_8, 0, 1, 0, none, 0, [], none, 0, [], true⟩ : KX)), rC a_6 c_7 boot, bk b_1 32 [.slice a_3 boot.length c_4, .slice none 0 0, .slice d_8.a d_8.l.length d_8.c, str d_8.jt, iv d_8.js, iv 0, iv 1, iv 0, .slice none 0 0, .slice none 0 0, .bool true]]) (fun w hw => hw.gathN [5, 2, 1, 1, 0] rfl) <| jN (.inl rfl) rfl (RV.cell1 (jr 2 (vs := [.slice a_3 boot.length c_4, .slice none 0 0, .slice d_8.a d_8.l.length d_8.c, str d_8.jt, iv d_8.js, iv 0, iv 1, iv 0, .slice none 0 0, .slice none 0 0, .bool true]) rfl rfl Tryz.isAgg32 kY rfl rfl) ⟨_, rfl⟩) (tS 1 _) ?_
  exact ⟨hb_5, (⟨a_3, c_4, boot, none, 0, [], d_8, 0, 1, 0, none, 0, [], none, 0, [], true⟩ : KX), by simp only [KX.dat, KD.new, List.map_nil, hd_9], rfl, rfl⟩

set_option maxRecDepth 4000 in
set_option maxHeartbeats 1000000 in
theorem Y_specKernelNew  :
    Ct Tryz.prog 4 [] [] (fun _ => True) (fun v A' => boot.length ≤ 3 ∧ ∃ y : KX, y.dat = KD.new ∧ v = .agg #[.slice y.a0 y.store.length y.c0, .slice y.a1 y.txs.length y.c1, .slice y.dk.a y.dk.l.length y.dk.c, str y.dk.jt, .int .i64 y.dk.js, .int .i64 y.seq, .int .i64 y.next, .int .i64 y.time, .slice y.a2 y.hist.length y.c2, .slice y.a3 y.seen.length y.c3, .bool y.room] ∧ A' = [.rows (rdsN y)]) := by
  refine Ct.intro Tryz.func4 rfl Tryz.ntmps4 (lb rfl) fun w0 hpre => ?_
  refine jC <| jF ?_
  refine jI rfl (JO.alloc (z := .agg #[.slice none 0 0, .slice none 0 0, .slice none 0 0, str [], iv 0, iv 0, iv 0, iv 0, .slice none 0 0, .slice none 0 0, .bool false]) (cs := [.slice none 0 0, .slice none 0 0, .slice none 0 0, str [], iv 0, iv 0, iv 0, iv 0, .slice none 0 0, .slice none 0 0, .bool false]) Tryz.zeroValue32 rfl) ?_
  rintro _ _ ⟨b_1, rfl, rfl⟩
  refine jE <| jB <| jC <| jF ?_
  refine jI rfl (jR [] Tryz.call9 rfl (Y_sBoot) rfl (fun _ _ => trivial)) ?_
  rintro _ _ ⟨_, ⟨hb_2, a_3, c_4, rfl, rfl⟩, rfl⟩
  refine jA (jG (v := .slice a_3 boot.length c_4) rfl) <| jE <| jB <| jC <| jF <| jA (jD (v := .slice a_3 boot.length c_4) rfl) <| jA (jD (v := .slice a_3 boot.length c_4) rfl) ?_
  refine jI rfl (jR [] Tryz.call10 rfl (Y_specDiskNew a_3 c_4 boot (by omega)) rfl (fun w hw => hw.see (i := 0) rfl)) ?_
  rintro _ _ ⟨_, ⟨d_5, hd_6, rfl, rfl⟩, rfl⟩
  refine jA (PO.build (ps := [(0, .slice a_3 boot.length c_4), (2, .agg #[.slice d_5.a d_5.l.length d_5.c, str d_5.jt, iv d_5.js]), (4, iv 1), (8, .bool true)]) (cs := [.slice a_3 boot.length c_4, .slice none 0 0, .slice d_5.a d_5.l.length d_5.c, str d_5.jt, iv d_5.js, iv 0, iv 1, iv 0, .slice none 0 0, .slice none 0 0, .bool true]) rfl (by kernel_rfl)) ?_
  refine jI rfl (JO.store 2 (vs := [.slice a_3 boot.length c_4, .slice none 0 0, .slice d_5.a d_5.l.length d_5.c, str d_5.jt, iv d_5.js, iv 0, iv 1, iv 0, .slice none 0 0, .slice none 0 0, .bool true]) (cs' := [.slice a_3 boot.length c_4, .slice none 0 0, .slice d_5.a d_5.l.length d_5.c, str d_5.jt, iv d_5.js, iv 0, iv 1, iv 0, .slice none 0 0, .slice none 0 0, .bool true]) rfl rfl rfl rfl kY rfl rfl (lb rfl) rfl) ?_
  rintro _ _ rfl
  refine jE <| jB <| jK <| JQ.nilRow 9 1 <| JQ.nilRow 69 10 <| kC (L' := [Res.rows (([] : List TX).flatMap rdsX), Res.row (.slice none 0 0) 69 10 0 (([] : List TX).flatMap encX), Res.row (.slice none 0 0) 9 1 0 (([] : List Str).map str), Res.rows (rdsD d_5), rC a_3 c_4 boot, bk b_1 32 [.slice a_3 boot.length c_4, .slice none 0 0, .slice d_5.a d_5.l.length d_5.c, str d_5.jt, iv d_5.js, iv 0, iv 1, iv 0, .slice none 0 0, .slice none 0 0, .bool true]]) (fun w hw => hw.nilR (α := TX) (f := rdsX) [] (B := []) (F := [Res.row (.slice none 0 0) 69 10 0 (([] : List TX).flatMap encX), Res.row (.slice none 0 0) 9 1 0 (([] : List Str).map str), Res.rows (rdsD d_5), rC a_3 c_4 boot, bk b_1 32 [.slice a_3 boot.length c_4, .slice none 0 0, .slice d_5.a d_5.l.length d_5.c, str d_5.jt, iv d_5.js, iv 0, iv 1, iv 0, .slice none 0 0, .slice none 0 0, .bool true]]) rfl) <| kC (L' := [Res.rows (rdsXS none 0 ([] : List TX)), Res.row (.slice none 0 0) 9 1 0 (([] : List Str).map str), Res.rows (rdsD d_5), rC a_3 c_4 boot, bk b_1 32 [.slice a_3 boot.length c_4, .slice none 0 0, .slice d_5.a d_5.l.length d_5.c, str d_5.jt, iv d_5.js, iv 0, iv 1, iv 0, .slice none 0 0, .slice none 0 0, .bool true]]) (fun w hw => hw.consR (r := ⟨.slice none 0 0, 69, 10, 0, ([] : List TX).flatMap encX⟩) (A := ([] : List TX).flatMap rdsX) [1, 0] rfl) <| JQ.nilRow 75 8 <| kC (L' := [Res.rows (([] : List EX).flatMap rdsE), Res.row (.slice none 0 0) 75 8 0 (([] : List EX).flatMap encE), Res.rows (rdsXS none 0 ([] : List TX)), Res.row (.slice none 0 0) 9 1 0 (([] : List Str).map str), Res.rows (rdsD d_5), rC a_3 c_4 boot, bk b_1 32 [.slice a_3 boot.length c_4, .slice none 0 0, .slice d_5.a d_5.l.length d_5.c, str d_5.jt, iv d_5.js, iv 0, iv 1, iv 0, .slice none 0 0, .slice none 0 0, .bool true]]) (fun w hw => hw.nilR (α := EX) (f := rdsE) [] (B := []) (F := [Res.row (.slice none 0 0) 75 8 0 (([] : List EX).flatMap encE), Res.rows (rdsXS none 0 ([] : List TX)), Res.row (.slice none 0 0) 9 1 0 (([] : List Str).map str), Res.rows (rdsD d_5), rC a_3 c_4 boot, bk b_1 32 [.slice a_3 boot.length c_4, .slice none 0 0, .slice d_5.a d_5.l.length d_5.c, str d_5.jt, iv d_5.js, iv 0, iv 1, iv 0, .slice none 0 0, .slice none 0 0, .bool true]]) rfl) <| kC (L' := [Res.rows (rdsES none 0 ([] : List EX)), Res.rows (rdsXS none 0 ([] : List TX)), Res.row (.slice none 0 0) 9 1 0 (([] : List Str).map str), Res.rows (rdsD d_5), rC a_3 c_4 boot, bk b_1 32 [.slice a_3 boot.length c_4, .slice none 0 0, .slice d_5.a d_5.l.length d_5.c, str d_5.jt, iv d_5.js, iv 0, iv 1, iv 0, .slice none 0 0, .slice none 0 0, .bool true]]) (fun w hw => hw.consR (r := ⟨.slice none 0 0, 75, 8, 0, ([] : List EX).flatMap encE⟩) (A := ([] : List EX).flatMap rdsE) [1, 0] rfl) ?_
  refine kC (L' := [Res.rows (rdsN (⟨a_3, c_4, boot, none, 0, [], d_5, 0, 1, 0, none, 0, [], none, 0, [], true⟩ : KX)), bk b_1 32 [.slice a_3 boot.length c_4, .slice none 0 0, .slice d_5.a d_5.l.length d_5.c, str d_5.jt, iv d_5.js, iv 0, iv 1, iv 0, .slice none 0 0, .slice none 0 0, .bool true]]) (fun w hw => hw.gathN [4, 2, 1, 1, 0] rfl) <| jN (.inl rfl) rfl (RV.cell1 (jr 1 (vs := [.slice a_3 boot.length c_4, .slice none 0 0, .slice d_5.a d_5.l.length d_5.c, str d_5.jt, iv d_5.js, iv 0, iv 1, iv 0, .slice none 0 0, .slice none 0 0, .bool true]) rfl rfl Tryz.isAgg32 kY rfl rfl) ⟨_, rfl⟩) (tS 1 _) ?_
  exact ⟨hb_2, (⟨a_3, c_4, boot, none, 0, [], d_5, 0, 1, 0, none, 0, [], none, 0, [], true⟩ : KX), by simp only [KX.dat, KD.new, List.map_nil, hd_6], rfl, rfl⟩

end Go.Proofs.YtkmpmjficoohkaaGreatDoor
