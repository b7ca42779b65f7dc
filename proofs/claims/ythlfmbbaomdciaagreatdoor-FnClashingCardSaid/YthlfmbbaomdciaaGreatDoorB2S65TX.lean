/-
Texts of the walk, joined: what each one proves stands at its theorems.
-/
import Derived.Test.YthlfmbbaomdciaaGreatDoorB0S65TX
import Derived.Test.YthlfmbbaomdciaaGreatDoorB2DatSt
set_option linter.unusedSimpArgs false
set_option linter.unusedVariables false
set_option linter.unnecessarySimpa false
set_option maxHeartbeats 4000000
set_option maxRecDepth 4000
namespace Go.Proofs.YthlfmbbaomdciaaGreatDoor
open Go Go.RowKit
def bootS : List Cell := ((⟨[], [], []⟩ : MS).spawn 0).1.s
attribute [local irreducible] JL JC JQ JO LO PO JA JX Ct

theorem D_told (c : CL) (hc : c.ok 1048576) :
   Ct Tryz.prog 290 [.agg #[.int .i64 c.kind, str c.name, str c.to_, .int .i64 c.a, .int .i64 c.b, str c.text]] [] (fun _ => True) (fun v A' => ∃ (r0 : CL), r0.ok 1048576 ∧ v = .agg #[.int .i64 r0.kind, str r0.name, str r0.to_, .int .i64 r0.a, .int .i64 r0.b, str r0.text] ∧ A' = []) := by
 refine Ct.intro Tryz.func290 rfl Tryz.ntmps290 (lb rfl) fun w0 hpre => ?_
 obtain ⟨hc1, hc2, hc3, hc4, hc5, hc6⟩ := id hc
 refine go ?_
 refine jM [iv c.kind, str c.name, str c.to_, iv c.a, iv c.b, str c.text] fun b_1 => ?_
 refine jG [iv 0, str [], str [], iv 0, iv 0, str []] fun b_2 => ?_
 refine go ?_
 refine jK (je (ps := [(0, iv c.kind)]) (cs := [iv c.kind, str [], str [], iv 0, iv 0, str []]) rfl (by kernel_rfl)) ?_
 refine jG [iv 0, str [], str [], iv 0, iv 0, str []] fun b_3 => ?_
 refine jD 0 [iv c.kind, str [], str [], iv 0, iv 0, str []] ?_
 refine jb <| jT <| jc <| jc <| jy ?_
 refine gQ ?_
 refine jb <| jT ?_
 refine JC.cut (fun e_ L_ => ∃ u1 : Str, (u1.length ≤ 1048576) ∧ EL e_ [(1, .pointer (some ⟨b_1, 0, none⟩)), (2, .pointer (some ⟨b_2, 0, none⟩)), (3, .pointer (some ⟨b_3, 0, none⟩))] ∧ L_ = [bk b_3 43 [iv c.kind, str u1, str [], iv 0, iv 0, str []], bk b_2 43 [iv 0, str [], str [], iv 0, iv 0, str []], bk b_1 43 [iv c.kind, str c.name, str c.to_, iv c.a, iv c.b, str c.text]]) ?_ ?_
 · refine go ?_
   by_cases h_4 : c.kind = 1
   · refine go ?_
     refine jD 0 [iv c.kind, str c.name, str [], iv 0, iv 0, str []] ?_
     refine go ?_
     exact jh [0, 0, 0] ⟨c.name, by omega, EL.go, rfl⟩
   refine go ?_
   by_cases h_5 : c.kind = 3
   · refine go ?_
     refine jD 0 [iv c.kind, str c.name, str [], iv 0, iv 0, str []] ?_
     refine go ?_
     exact jh [0, 0, 0] ⟨c.name, by omega, EL.go, rfl⟩
   refine go ?_
   by_cases h_6 : c.kind = 2
   · refine go ?_
     refine jD 0 [iv c.kind, str c.name, str [], iv 0, iv 0, str []] ?_
     refine go ?_
     exact jh [0, 0, 0] ⟨c.name, by omega, EL.go, rfl⟩
   refine go ?_
   by_cases h_7 : c.kind = 4
   · refine go ?_
     refine jD 0 [iv c.kind, str c.name, str [], iv 0, iv 0, str []] ?_
     refine go ?_
     exact jh [0, 0, 0] ⟨c.name, by omega, EL.go, rfl⟩
   refine go ?_
   by_cases h_8 : c.kind = 6
   · refine go ?_
     refine jD 0 [iv c.kind, str c.name, str [], iv 0, iv 0, str []] ?_
     refine go ?_
     exact jh [0, 0, 0] ⟨c.name, by omega, EL.go, rfl⟩
   refine go ?_
   by_cases h_9 : c.kind = 7
   · refine go ?_
     refine jD 0 [iv c.kind, str c.name, str [], iv 0, iv 0, str []] ?_
     refine go ?_
     exact jh [0, 0, 0] ⟨c.name, by omega, EL.go, rfl⟩
   refine go ?_
   by_cases h_10 : c.kind = 8
   · refine go ?_
     refine jD 0 [iv c.kind, str c.name, str [], iv 0, iv 0, str []] ?_
     refine go ?_
     exact jh [0, 0, 0] ⟨c.name, by omega, EL.go, rfl⟩
   refine go ?_
   exact jh [0, 0, 0] ⟨[], by decide, EL.go, rfl⟩
 rintro _ _ ⟨u1, hu1, ⟨_, rfl⟩, rfl⟩
 refine jT <| jc <| jc <| jy ?_
 refine gQ ?_
 refine jb <| jT ?_
 refine JC.cut (fun e_ L_ => ∃ u2 : Str, ∃ u3 : Int, ∃ u4 : Int, ∃ u5 : Str, (u2.length ≤ 1048576) ∧ (-9223372036854775808 ≤ u3 ∧ u3 ≤ 9223372036854775807) ∧ (-9223372036854775808 ≤ u4 ∧ u4 ≤ 9223372036854775807) ∧ (u5.length ≤ 1048576) ∧ EL e_ [(2, .pointer (some ⟨b_2, 0, none⟩)), (3, .pointer (some ⟨b_3, 0, none⟩))] ∧ L_ = [bk b_3 43 [iv c.kind, str u1, str u2, iv u3, iv u4, str u5], bk b_2 43 [iv 0, str [], str [], iv 0, iv 0, str []], bk b_1 43 [iv c.kind, str c.name, str c.to_, iv c.a, iv c.b, str c.text]]) ?_ ?_
 · refine go ?_
   by_cases h_11 : c.kind = 2
   · refine go ?_
     refine jD 0 [iv c.kind, str u1, str c.to_, iv 0, iv 0, str []] ?_
     refine go ?_
     exact jh [0, 0, 0] ⟨c.to_, 0, 0, [], by omega, by decide, by decide, by decide, EL.go, rfl⟩
   refine go ?_
   by_cases h_12 : c.kind = 4
   · refine go ?_
     refine jD 0 [iv c.kind, str u1, str c.to_, iv 0, iv 0, str []] ?_
     refine go ?_
     exact jh [0, 0, 0] ⟨c.to_, 0, 0, [], by omega, by decide, by decide, by decide, EL.go, rfl⟩
   refine go ?_
   by_cases h_13 : c.kind = 6
   · refine go ?_
     refine jD 0 [iv c.kind, str u1, str [], iv c.a, iv 0, str []] ?_
     refine go ?_
     refine jD 0 [iv c.kind, str u1, str [], iv c.a, iv c.b, str []] ?_
     refine go ?_
     exact jh [0, 0, 0] ⟨[], c.a, c.b, [], by decide, by omega, by omega, by decide, EL.go, rfl⟩
   refine go ?_
   by_cases h_14 : c.kind = 16
   · refine go ?_
     refine jD 0 [iv c.kind, str u1, str [], iv c.a, iv 0, str []] ?_
     refine go ?_
     refine jD 0 [iv c.kind, str u1, str [], iv c.a, iv c.b, str []] ?_
     refine go ?_
     exact jh [0, 0, 0] ⟨[], c.a, c.b, [], by decide, by omega, by omega, by decide, EL.go, rfl⟩
   refine go ?_
   by_cases h_15 : c.kind = 8
   · refine go ?_
     refine jD 0 [iv c.kind, str u1, str [], iv c.a, iv 0, str []] ?_
     refine go ?_
     exact jh [0, 0, 0] ⟨[], c.a, 0, [], by decide, by omega, by decide, by decide, EL.go, rfl⟩
   refine go ?_
   by_cases h_16 : c.kind = 11
   · refine go ?_
     refine jD 0 [iv c.kind, str u1, str [], iv c.a, iv 0, str []] ?_
     refine go ?_
     exact jh [0, 0, 0] ⟨[], c.a, 0, [], by decide, by omega, by decide, by decide, EL.go, rfl⟩
   refine go ?_
   by_cases h_17 : c.kind = 13
   · refine go ?_
     refine jD 0 [iv c.kind, str u1, str [], iv c.a, iv 0, str []] ?_
     refine go ?_
     exact jh [0, 0, 0] ⟨[], c.a, 0, [], by decide, by omega, by decide, by decide, EL.go, rfl⟩
   refine go ?_
   by_cases h_18 : c.kind = 14
   · refine go ?_
     refine jD 0 [iv c.kind, str u1, str [], iv c.a, iv 0, str []] ?_
     refine go ?_
     exact jh [0, 0, 0] ⟨[], c.a, 0, [], by decide, by omega, by decide, by decide, EL.go, rfl⟩
   refine go ?_
   by_cases h_19 : c.kind = 18
   · refine go ?_
     refine jD 0 [iv c.kind, str u1, str [], iv c.a, iv 0, str []] ?_
     refine go ?_
     exact jh [0, 0, 0] ⟨[], c.a, 0, [], by decide, by omega, by decide, by decide, EL.go, rfl⟩
   refine go ?_
   by_cases h_20 : c.kind = 19
   · refine go ?_
     refine jD 0 [iv c.kind, str u1, str [], iv c.a, iv 0, str []] ?_
     refine go ?_
     exact jh [0, 0, 0] ⟨[], c.a, 0, [], by decide, by omega, by decide, by decide, EL.go, rfl⟩
   refine go ?_
   by_cases h_21 : c.kind = 21
   · refine go ?_
     refine jD 0 [iv c.kind, str u1, str [], iv c.a, iv 0, str []] ?_
     refine go ?_
     exact jh [0, 0, 0] ⟨[], c.a, 0, [], by decide, by omega, by decide, by decide, EL.go, rfl⟩
   refine go ?_
   by_cases h_22 : c.kind = 7
   · refine go ?_
     refine jD 0 [iv c.kind, str u1, str [], iv c.a, iv 0, str []] ?_
     refine go ?_
     refine jD 0 [iv c.kind, str u1, str [], iv c.a, iv 0, str c.text] ?_
     refine go ?_
     exact jh [0, 0, 0] ⟨[], c.a, 0, c.text, by decide, by omega, by decide, by omega, EL.go, rfl⟩
   refine go ?_
   by_cases h_23 : c.kind = 10
   · refine go ?_
     refine jD 0 [iv c.kind, str u1, str [], iv c.a, iv 0, str []] ?_
     refine go ?_
     refine jD 0 [iv c.kind, str u1, str [], iv c.a, iv 0, str c.text] ?_
     refine go ?_
     exact jh [0, 0, 0] ⟨[], c.a, 0, c.text, by decide, by omega, by decide, by omega, EL.go, rfl⟩
   refine go ?_
   by_cases h_24 : c.kind = 20
   · refine go ?_
     refine jD 0 [iv c.kind, str u1, str [], iv c.a, iv 0, str []] ?_
     refine go ?_
     refine jD 0 [iv c.kind, str u1, str [], iv c.a, iv 0, str c.text] ?_
     refine go ?_
     exact jh [0, 0, 0] ⟨[], c.a, 0, c.text, by decide, by omega, by decide, by omega, EL.go, rfl⟩
   refine go ?_
   by_cases h_25 : c.kind = 22
   · refine go ?_
     refine jD 0 [iv c.kind, str u1, str [], iv 0, iv 0, str c.text] ?_
     refine go ?_
     exact jh [0, 0, 0] ⟨[], 0, 0, c.text, by decide, by decide, by decide, by omega, EL.go, rfl⟩
   refine go ?_
   exact jh [0, 0, 0] ⟨[], 0, 0, [], by decide, by decide, by decide, by decide, EL.go, rfl⟩
 rintro _ _ ⟨u2, u3, u4, u5, hu2, hu3, hu4, hu5, ⟨_, rfl⟩, rfl⟩
 refine go ?_
 refine jD 1 [iv c.kind, str u1, str u2, iv u3, iv u4, str u5] ?_
 refine go ?_
 exact jJ [] ⟨(⟨c.kind, u1, u2, u3, u4, u5⟩ : CL), ⟨by (try dsimp only); omega, by (try dsimp only); omega, by (try dsimp only); omega, (show List.length (u1 : Str) ≤ 1048576 by omega), (show List.length (u2 : Str) ≤ 1048576 by omega), (show List.length (u5 : Str) ≤ 1048576 by omega)⟩, rfl, rfl⟩

theorem D_call13 (qb : Nat) (qa : Option Addr) (qc : Nat) (ql : Str) (qp : Nat) (qs : Int) (hql : ql.length ≤ 1048577) (hqp : qp ≤ ql.length)  :
   Ct Tryz.prog 202 [.pointer (some ⟨qb, 0, none⟩)] [cb qb qa qc ql qp qs] (fun w => seesC w qa qc ql [cb qb qa qc ql qp qs]) (fun v A' => ∃ (qp' : _) (qs' : _) (r0 : CL), qp' ≤ ql.length ∧ r0.ok 1048576 ∧ v = .agg #[.int .i64 r0.kind, str r0.name, str r0.to_, .int .i64 r0.a, .int .i64 r0.b, str r0.text] ∧ A' = [cb qb qa qc ql qp' qs']) := by
 refine Ct.intro Tryz.func202 rfl Tryz.ntmps202 (lb rfl) fun w0 hpre => ?_
 have hs_qa : Sees w0 _ _ _ _ := hpre.1
 refine go ?_
 refine jG [iv 0, str [], str [], iv 0, iv 0, str []] fun b_1 => ?_
 refine go ?_
 refine jF rfl (jR (ps := [(0, iv 1), (1, iv 1), (2, iv 2), (3, iv 3), (4, iv 4), (5, iv 5), (6, iv 6), (7, iv 6), (8, iv 7), (9, iv 7), (10, iv 8), (11, iv 9), (12, iv 10), (13, iv 10), (14, iv 11), (15, iv 11), (16, iv 12), (17, iv 13), (18, iv 14), (19, iv 15), (20, iv 16), (21, iv 17), (22, iv 18), (23, iv 19), (24, iv 20), (25, iv 21), (26, iv 22), (27, iv 22)]) (cur := #[iv 1, iv 1, iv 2, iv 3, iv 4, iv 5, iv 6, iv 6, iv 7, iv 7, iv 8, iv 9, iv 10, iv 10, iv 11, iv 11, iv 12, iv 13, iv 14, iv 15, iv 16, iv 17, iv 18, iv 19, iv 20, iv 21, iv 22, iv 22]) kL kS kZ rfl (by kernel_rfl) (by decide) (by decide)) ?_
 rintro _ _ ⟨a_2, rfl, rfl⟩
 refine jA [2, 0] (D_pickInt qb qa qc ql qp qs a_2 28 ([1, 1, 2, 3, 4, 5, 6, 6, 7, 7, 8, 9, 10, 10, 11, 11, 12, 13, 14, 15, 16, 17, 18, 19, 20, 21, 22, 22] : List Int) (by omega) (by omega) (by simp) (by simp)) (hpre := fun w hw => ⟨hw.seeOut_ hs_qa (hpre.2), hw.apart hs_qa (hpre.2) (by simp)⟩) ?_
 rintro _ _ ⟨qp_3, qs_4, n_6, fq_5, f_7, rfl, rfl⟩
 have hbn_6 : -9223372036854775808 ≤ n_6 ∧ n_6 ≤ 9223372036854775807 := by have hx_ := f_7; simp only [List.mem_cons, List.not_mem_nil, or_false] at hx_; omega
 refine jK (je (ps := [(0, iv n_6)]) (cs := [iv n_6, str [], str [], iv 0, iv 0, str []]) rfl (by kernel_rfl)) ?_
 refine jG [iv 0, str [], str [], iv 0, iv 0, str []] fun b_9 => ?_
 refine jD 0 [iv n_6, str [], str [], iv 0, iv 0, str []] ?_
 refine go ?_
 refine jF rfl (jR (ps := [(0, str [120]), (1, str [121]), (2, str [108, 111, 103])]) (cur := #[str [120], str [121], str [108, 111, 103]]) kI kM kV rfl (by kernel_rfl) (by decide) (by decide)) ?_
 rintro _ _ ⟨a_10, rfl, rfl⟩
 refine jA [2, 0] (D_pick qb qa qc ql qp_3 qs_4 a_10 3 ([[120], [121], [108, 111, 103]] : List Str) (by omega) (by omega) (by simp) (by simp)) (hpre := fun w hw => ⟨hw.seeOut_ hs_qa (hpre.2), hw.apart hs_qa (hpre.2) (by simp)⟩) ?_
 rintro _ _ ⟨qp_11, qs_12, u_14, fq_13, f_15, rfl, rfl⟩
 have hlu_14 : u_14.length ≤ 64 := by have hx_ := f_15; simp only [List.mem_cons, List.not_mem_nil, or_false] at hx_; rcases hx_ with hx_ | hx_ | hx_ <;> first | (rw [hx_]; decide) | (rw [hx_]; omega)
 refine go ?_
 refine jD 1 [iv n_6, str u_14, str [], iv 0, iv 0, str []] ?_
 refine go ?_
 refine jF rfl (jR (ps := [(0, str [120]), (1, str [121]), (2, str [122])]) (cur := #[str [120], str [121], str [122]]) kI kM kV rfl (by kernel_rfl) (by decide) (by decide)) ?_
 rintro _ _ ⟨a_17, rfl, rfl⟩
 refine jA [1, 0] (D_pick qb qa qc ql qp_11 qs_12 a_17 3 ([[120], [121], [122]] : List Str) (by omega) (by omega) (by simp) (by simp)) (hpre := fun w hw => ⟨hw.seeOut_ hs_qa (hpre.2), hw.apart hs_qa (hpre.2) (by simp)⟩) ?_
 rintro _ _ ⟨qp_18, qs_19, u_21, fq_20, f_22, rfl, rfl⟩
 have hlu_21 : u_21.length ≤ 64 := by have hx_ := f_22; simp only [List.mem_cons, List.not_mem_nil, or_false] at hx_; rcases hx_ with hx_ | hx_ | hx_ <;> first | (rw [hx_]; decide) | (rw [hx_]; omega)
 refine go ?_
 refine jD 1 [iv n_6, str u_14, str u_21, iv 0, iv 0, str []] ?_
 refine go ?_
 refine jA [0] (D_below qb qa qc ql qp_18 qs_19 (by omega) (by omega) 4 (by omega)) (hpre := fun w hw => ⟨hw.seeOut_ hs_qa (hpre.2), hw.apart hs_qa (hpre.2) (by simp)⟩) ?_
 rintro _ _ ⟨qp_24, qs_25, n_27, fq_26, f_28, rfl, rfl⟩
 refine go ?_
 refine jD 1 [iv n_6, str u_14, str u_21, nv n_27, iv 0, str []] ?_
 refine go ?_
 refine jA [0] (D_below qb qa qc ql qp_24 qs_25 (by omega) (by omega) 12 (by omega)) (hpre := fun w hw => ⟨hw.seeOut_ hs_qa (hpre.2), hw.apart hs_qa (hpre.2) (by simp)⟩) ?_
 rintro _ _ ⟨qp_30, qs_31, n_33, fq_32, f_34, rfl, rfl⟩
 refine go ?_
 refine jD 1 [iv n_6, str u_14, str u_21, nv n_27, iv ((1 + n_33 : Nat) : Int), str []] ?_
 refine go ?_
 refine jA [0] (D_below qb qa qc ql qp_30 qs_31 (by omega) (by omega) 12 (by omega)) (hpre := fun w hw => ⟨hw.seeOut_ hs_qa (hpre.2), hw.apart hs_qa (hpre.2) (by simp)⟩) ?_
 rintro _ _ ⟨qp_36, qs_37, n_39, fq_38, f_40, rfl, rfl⟩
 refine jA [0] (D_text qb qa qc ql qp_36 qs_37 (by omega) (by omega) ((n_39 : Nat) : Int) (by omega)) (hpre := fun w hw => ⟨hw.seeOut_ hs_qa (hpre.2), hw.apart hs_qa (hpre.2) (by simp)⟩) ?_
 rintro _ _ ⟨qp_42, qs_43, u_45, fq_44, f_46, rfl, rfl⟩
 refine go ?_
 refine jD 1 [iv n_6, str u_14, str u_21, nv n_27, iv ((1 + n_33 : Nat) : Int), str u_45] ?_
 refine go ?_
 by_cases h_48 : n_6 = 6
 · refine go ?_
   refine jA [0] (D_below qb qa qc ql qp_42 qs_43 (by omega) (by omega) 12 (by omega)) (hpre := fun w hw => ⟨hw.seeOut_ hs_qa (hpre.2), hw.apart hs_qa (hpre.2) (by simp)⟩) ?_
   rintro _ _ ⟨qp_49, qs_50, n_52, fq_51, f_53, rfl, rfl⟩
   refine go ?_
   refine jD 1 [iv n_6, str u_14, str u_21, nv n_52, iv ((1 + n_33 : Nat) : Int), str u_45] ?_
   refine go ?_
   refine jA [] (D_told (⟨n_6, u_14, u_21, ((n_52 : Nat) : Int), ((1 + n_33 : Nat) : Int), u_45⟩ : CL) ⟨by (try dsimp only); omega, by (try dsimp only); omega, by (try dsimp only); omega, (show List.length (u_14 : Str) ≤ 1048576 by omega), (show List.length (u_21 : Str) ≤ 1048576 by omega), (show List.length (u_45 : Str) ≤ 1048576 by omega)⟩) ?_
   rintro _ _ ⟨C_55, f_56, rfl, rfl⟩
   obtain ⟨f_561, f_562, f_563, f_564, f_565, f_566⟩ := id f_56
   refine jD 2 [iv C_55.kind, str C_55.name, str C_55.to_, iv C_55.a, iv C_55.b, str C_55.text] ?_
   refine go ?_
   exact jJ [0] ⟨qp_49, qs_50, C_55, (by omega), f_56, rfl, rfl⟩
 refine go ?_
 refine jA [] (D_told (⟨n_6, u_14, u_21, ((n_27 : Nat) : Int), ((1 + n_33 : Nat) : Int), u_45⟩ : CL) ⟨by (try dsimp only); omega, by (try dsimp only); omega, by (try dsimp only); omega, (show List.length (u_14 : Str) ≤ 1048576 by omega), (show List.length (u_21 : Str) ≤ 1048576 by omega), (show List.length (u_45 : Str) ≤ 1048576 by omega)⟩) ?_
 rintro _ _ ⟨C_58, f_59, rfl, rfl⟩
 obtain ⟨f_591, f_592, f_593, f_594, f_595, f_596⟩ := id f_59
 refine jD 2 [iv C_58.kind, str C_58.name, str C_58.to_, iv C_58.a, iv C_58.b, str C_58.text] ?_
 refine go ?_
 exact jJ [0] ⟨qp_42, qs_43, C_58, (by omega), f_59, rfl, rfl⟩

theorem D_any13 (qb : Nat) (qa : Option Addr) (qc : Nat) (ql : Str) (qp : Nat) (qs : Int) (hql : ql.length ≤ 1048577) (hqp : qp ≤ ql.length)  :
   Ct Tryz.prog 120 [.pointer (some ⟨qb, 0, none⟩)] [cb qb qa qc ql qp qs] (fun w => seesC w qa qc ql [cb qb qa qc ql qp qs]) (fun v A' => ∃ (qp' : _) (qs' : _) (r0 : CL), qp' ≤ ql.length ∧ r0.ok 1048576 ∧ v = .agg #[.int .i64 r0.kind, str r0.name, str r0.to_, .int .i64 r0.a, .int .i64 r0.b, str r0.text] ∧ A' = [cb qb qa qc ql qp' qs']) := by
 refine Ct.intro Tryz.func120 rfl Tryz.ntmps120 (lb rfl) fun w0 hpre => ?_
 have hs_qa : Sees w0 _ _ _ _ := hpre.1
 refine go ?_
 refine jG [iv 0, str [], str [], iv 0, iv 0, str []] fun b_1 => ?_
 refine go ?_
 refine jA [1] (D_call13 qb qa qc ql qp qs (by omega) (by omega)) (hpre := fun w hw => ⟨hw.seeOut_ hs_qa (hpre.2), hw.apart hs_qa (hpre.2) (by simp)⟩) ?_
 rintro _ _ ⟨qp_2, qs_3, C_5, fq_4, f_6, rfl, rfl⟩
 obtain ⟨f_61, f_62, f_63, f_64, f_65, f_66⟩ := id f_6
 refine jG [iv 0, str [], str [], iv 0, iv 0, str []] fun b_8 => ?_
 refine jD 0 [iv C_5.kind, str C_5.name, str C_5.to_, iv C_5.a, iv C_5.b, str C_5.text] ?_
 refine go ?_
 refine jA [1] (D_below qb qa qc ql qp_2 qs_3 (by omega) (by omega) 12 (by omega)) (hpre := fun w hw => ⟨hw.seeOut_ hs_qa (hpre.2), hw.apart hs_qa (hpre.2) (by simp)⟩) ?_
 rintro _ _ ⟨qp_9, qs_10, n_12, fq_11, f_13, rfl, rfl⟩
 refine go ?_
 by_cases h_15 : ((n_12 : Nat) : Int) = 0
 · refine go ?_
   refine jF rfl (jR (ps := [(0, iv 0), (1, iv 23), (2, iv (-1)), (3, iv 5)]) (cur := #[iv 0, iv 23, iv (-1), iv 5]) kL kS kZ rfl (by kernel_rfl) (by decide) (by decide)) ?_
   rintro _ _ ⟨a_16, rfl, rfl⟩
   refine jA [1, 0] (D_pickInt qb qa qc ql qp_9 qs_10 a_16 4 ([0, 23, -1, 5] : List Int) (by omega) (by omega) (by simp) (by simp)) (hpre := fun w hw => ⟨hw.seeOut_ hs_qa (hpre.2), hw.apart hs_qa (hpre.2) (by simp)⟩) ?_
   rintro _ _ ⟨qp_17, qs_18, n_20, fq_19, f_21, rfl, rfl⟩
   have hbn_20 : -9223372036854775808 ≤ n_20 ∧ n_20 ≤ 9223372036854775807 := by have hx_ := f_21; simp only [List.mem_cons, List.not_mem_nil, or_false] at hx_; omega
   refine go ?_
   refine jD 1 [iv n_20, str C_5.name, str C_5.to_, iv C_5.a, iv C_5.b, str C_5.text] ?_
   refine go ?_
   refine jD 2 [iv n_20, str C_5.name, str C_5.to_, iv C_5.a, iv C_5.b, str C_5.text] ?_
   refine go ?_
   exact jJ [0] ⟨qp_17, qs_18, (⟨n_20, C_5.name, C_5.to_, C_5.a, C_5.b, C_5.text⟩ : CL), (by omega), ⟨by (try dsimp only); omega, by (try dsimp only); omega, by (try dsimp only); omega, (show List.length (C_5.name : Str) ≤ 1048576 by omega), (show List.length (C_5.to_ : Str) ≤ 1048576 by omega), (show List.length (C_5.text : Str) ≤ 1048576 by omega)⟩, rfl, rfl⟩
 refine go ?_
 by_cases h_23 : ((n_12 : Nat) : Int) = 1
 · refine go ?_
   refine jA [] (D_long (97 : UInt8) 21 (by omega) (by omega)) ?_
   rintro _ _ ⟨u_24, f_25, rfl, rfl⟩
   refine jF rfl (jR (ps := [(0, str []), (1, str [65]), (2, str u_24)]) (cur := #[str [], str [65], str u_24]) kI kM kV rfl (by kernel_rfl) (by decide) (by decide)) ?_
   rintro _ _ ⟨a_27, rfl, rfl⟩
   refine jA [1, 0] (D_pick qb qa qc ql qp_9 qs_10 a_27 3 ([[], [65], u_24] : List Str) (by omega) (by omega) (by simp) (by simp)) (hpre := fun w hw => ⟨hw.seeOut_ hs_qa (hpre.2), hw.apart hs_qa (hpre.2) (by simp)⟩) ?_
   rintro _ _ ⟨qp_28, qs_29, u_31, fq_30, f_32, rfl, rfl⟩
   have hlu_31 : u_31.length ≤ 64 := by have hx_ := f_32; simp only [List.mem_cons, List.not_mem_nil, or_false] at hx_; rcases hx_ with hx_ | hx_ | hx_ <;> first | (rw [hx_]; decide) | (rw [hx_]; omega)
   refine go ?_
   refine jD 1 [iv C_5.kind, str u_31, str C_5.to_, iv C_5.a, iv C_5.b, str C_5.text] ?_
   refine go ?_
   refine jD 2 [iv C_5.kind, str u_31, str C_5.to_, iv C_5.a, iv C_5.b, str C_5.text] ?_
   refine go ?_
   exact jJ [0] ⟨qp_28, qs_29, (⟨C_5.kind, u_31, C_5.to_, C_5.a, C_5.b, C_5.text⟩ : CL), (by omega), ⟨by (try dsimp only); omega, by (try dsimp only); omega, by (try dsimp only); omega, (show List.length (u_31 : Str) ≤ 1048576 by omega), (show List.length (C_5.to_ : Str) ≤ 1048576 by omega), (show List.length (C_5.text : Str) ≤ 1048576 by omega)⟩, rfl, rfl⟩
 refine go ?_
 by_cases h_34 : ((n_12 : Nat) : Int) = 2
 · refine go ?_
   refine jF rfl (jR (ps := [(0, iv (-1)), (1, iv 99), (2, iv 9223372036854775807), (3, iv (-9223372036854775808))]) (cur := #[iv (-1), iv 99, iv 9223372036854775807, iv (-9223372036854775808)]) kL kS kZ rfl (by kernel_rfl) (by decide) (by decide)) ?_
   rintro _ _ ⟨a_35, rfl, rfl⟩
   refine jA [1, 0] (D_pickInt qb qa qc ql qp_9 qs_10 a_35 4 ([-1, 99, 9223372036854775807, -9223372036854775808] : List Int) (by omega) (by omega) (by simp) (by simp)) (hpre := fun w hw => ⟨hw.seeOut_ hs_qa (hpre.2), hw.apart hs_qa (hpre.2) (by simp)⟩) ?_
   rintro _ _ ⟨qp_36, qs_37, n_39, fq_38, f_40, rfl, rfl⟩
   have hbn_39 : -9223372036854775808 ≤ n_39 ∧ n_39 ≤ 9223372036854775807 := by have hx_ := f_40; simp only [List.mem_cons, List.not_mem_nil, or_false] at hx_; omega
   refine go ?_
   refine jD 1 [iv C_5.kind, str C_5.name, str C_5.to_, iv n_39, iv C_5.b, str C_5.text] ?_
   refine go ?_
   refine jD 2 [iv C_5.kind, str C_5.name, str C_5.to_, iv n_39, iv C_5.b, str C_5.text] ?_
   refine go ?_
   exact jJ [0] ⟨qp_36, qs_37, (⟨C_5.kind, C_5.name, C_5.to_, n_39, C_5.b, C_5.text⟩ : CL), (by omega), ⟨by (try dsimp only); omega, by (try dsimp only); omega, by (try dsimp only); omega, (show List.length (C_5.name : Str) ≤ 1048576 by omega), (show List.length (C_5.to_ : Str) ≤ 1048576 by omega), (show List.length (C_5.text : Str) ≤ 1048576 by omega)⟩, rfl, rfl⟩
 refine go ?_
 by_cases h_42 : ((n_12 : Nat) : Int) = 3
 · refine go ?_
   refine jA [0] (D_below qb qa qc ql qp_9 qs_10 (by omega) (by omega) 46 (by omega)) (hpre := fun w hw => ⟨hw.seeOut_ hs_qa (hpre.2), hw.apart hs_qa (hpre.2) (by simp)⟩) ?_
   rintro _ _ ⟨qp_43, qs_44, n_46, fq_45, f_47, rfl, rfl⟩
   refine go ?_
   refine jA [] (D_long (5 : UInt8) ((20 + n_46 : Nat) : Int) (by omega) (by omega)) ?_
   rintro _ _ ⟨u_49, f_50, rfl, rfl⟩
   refine go ?_
   refine jD 1 [iv C_5.kind, str C_5.name, str C_5.to_, iv C_5.a, iv C_5.b, str u_49] ?_
   refine go ?_
   refine jD 2 [iv C_5.kind, str C_5.name, str C_5.to_, iv C_5.a, iv C_5.b, str u_49] ?_
   refine go ?_
   exact jJ [0] ⟨qp_43, qs_44, (⟨C_5.kind, C_5.name, C_5.to_, C_5.a, C_5.b, u_49⟩ : CL), (by omega), ⟨by (try dsimp only); omega, by (try dsimp only); omega, by (try dsimp only); omega, (show List.length (C_5.name : Str) ≤ 1048576 by omega), (show List.length (C_5.to_ : Str) ≤ 1048576 by omega), (show List.length (u_49 : Str) ≤ 1048576 by omega)⟩, rfl, rfl⟩
 refine go ?_
 by_cases h_52 : ((n_12 : Nat) : Int) = 4
 · refine go ?_
   refine jF rfl (jR (ps := [(0, iv 0), (1, iv (-1)), (2, iv 9223372036854775807)]) (cur := #[iv 0, iv (-1), iv 9223372036854775807]) kL kS kZ rfl (by kernel_rfl) (by decide) (by decide)) ?_
   rintro _ _ ⟨a_53, rfl, rfl⟩
   refine jA [1, 0] (D_pickInt qb qa qc ql qp_9 qs_10 a_53 3 ([0, -1, 9223372036854775807] : List Int) (by omega) (by omega) (by simp) (by simp)) (hpre := fun w hw => ⟨hw.seeOut_ hs_qa (hpre.2), hw.apart hs_qa (hpre.2) (by simp)⟩) ?_
   rintro _ _ ⟨qp_54, qs_55, n_57, fq_56, f_58, rfl, rfl⟩
   have hbn_57 : -9223372036854775808 ≤ n_57 ∧ n_57 ≤ 9223372036854775807 := by have hx_ := f_58; simp only [List.mem_cons, List.not_mem_nil, or_false] at hx_; omega
   refine go ?_
   refine jD 1 [iv C_5.kind, str C_5.name, str C_5.to_, iv C_5.a, iv n_57, str C_5.text] ?_
   refine go ?_
   refine jD 2 [iv C_5.kind, str C_5.name, str C_5.to_, iv C_5.a, iv n_57, str C_5.text] ?_
   refine go ?_
   exact jJ [0] ⟨qp_54, qs_55, (⟨C_5.kind, C_5.name, C_5.to_, C_5.a, n_57, C_5.text⟩ : CL), (by omega), ⟨by (try dsimp only); omega, by (try dsimp only); omega, by (try dsimp only); omega, (show List.length (C_5.name : Str) ≤ 1048576 by omega), (show List.length (C_5.to_ : Str) ≤ 1048576 by omega), (show List.length (C_5.text : Str) ≤ 1048576 by omega)⟩, rfl, rfl⟩
 refine go ?_
 refine jD 2 [iv C_5.kind, str C_5.name, str C_5.to_, iv C_5.a, iv C_5.b, str C_5.text] ?_
 refine go ?_
 exact jJ [0] ⟨qp_9, qs_10, C_5, (by omega), f_6, rfl, rfl⟩

theorem D_boot  :
   Ct Tryz.prog 25 [] [] (fun _ => True) (fun v A' => ∃ r0a r0c r0, bootS = r0 ∧ (okC' 3 1048576 r0) ∧ v = .slice r0a r0.length r0c ∧ A' = [rC r0a r0c r0]) := by
 refine Ct.intro Tryz.func25 rfl Tryz.ntmps25 (lb rfl) fun w0 hpre => ?_
 refine go ?_
 refine jF rfl (jR (ps := []) (cur := #[]) kK kP kq rfl (by kernel_rfl) (by decide) (by decide)) ?_
 rintro _ _ ⟨a_1, rfl, rfl⟩
 refine jA [] (D_machOf a_1 0 ([] : List Cell) (by first | omega | simp) 0 ⟨by simp, fun c hc => by cases hc⟩) (hpre := fun w hw => hw.see (i := 0) rfl) ?_
 rintro _ _ ⟨x_2, m_3, e_5, k_4, rfl, rfl⟩
 refine jA [0, 0, 0] (M_spawn x_2 m_3 k_4 (by omega) (by omega) 0 (by omega)) ?_
 rintro _ _ ⟨x_8, m_9, n_10, n_12, e_6, k_7, f_11, f_13, rfl, rfl⟩
 refine go ?_
 refine jG zC fun b_14 => ?_
 refine jD 0 (mc x_8 m_9) ?_
 refine go ?_
 exact jJ [1] ⟨x_8.a0, x_8.c0, m_9.s, (by subst e_5; unfold bootS; rw [show ((⟨[], [], []⟩ : MS).spawn 0) = _ from e_6]), (k_7.okC'.mono (by omega)), rfl, rfl⟩

theorem D_store6 (qb : Nat) (qa : Option Addr) (qc : Nat) (ql : Str) (qp : Nat) (qs : Int) (hql : ql.length ≤ 1048577) (hqp : qp ≤ ql.length) (n : Int) (hn : -9223372036854775808 ≤ n ∧ n ≤ 9223372036854775807) (hn6 : n ≤ 6) :
   Ct Tryz.prog 115 [.pointer (some ⟨qb, 0, none⟩), .int .i64 n] [cb qb qa qc ql qp qs] (fun w => seesC w qa qc ql [cb qb qa qc ql qp qs]) (fun v A' => ∃ qp' qs' r0a r0c r0, qp' ≤ ql.length ∧ (okC' 10935 1048576 r0 ∧ stOk r0) ∧ v = .slice r0a r0.length r0c ∧ A' = cb qb qa qc ql qp' qs' :: [rC r0a r0c r0]) := by
 refine Ct.intro Tryz.func115 rfl Tryz.ntmps115 (lb rfl) fun w0 hpre => ?_
 have hs_qa : Sees w0 _ _ _ _ := hpre.1
 refine go ?_
 refine jA [] (D_boot) ?_
 rintro _ _ ⟨l_1a, l_1c, l_1, e_3, f_2, rfl, rfl⟩
 refine go ?_
 refine jL (fun k_ e_ L_ => ∃ i_ : Nat, ∃ p_q : Nat, ∃ s_q : Int, ∃ o_a : Option Addr, ∃ o_c : Nat, ∃ o_ : List Cell, (p_q ≤ ql.length) ∧ (i_ ≤ 6) ∧ (okC' (15 * 3 ^ i_ - 10) 1048576 o_) ∧ (stOk o_) ∧ EL e_ [(0, .pointer (some ⟨qb, 0, none⟩)), (1, iv n), (4, .slice none 0 0), (5, .slice o_a o_.length o_c), (6, nv i_)] ∧ L_ = [rC o_a o_c o_, cb qb qa qc ql p_q s_q] ∧ k_ = 7 - i_) _ ⟨0, qp, qs, l_1a, l_1c, l_1, (by omega), (by omega), (f_2.mono (by decide)), (by rw [← e_3]; exact stOk.boot), EL.go, rfl, rfl⟩ ?_
 rintro _ _ _ ⟨i_, p_q, s_q, o_a, o_c, o_, hpq_, hi, hO, hG, ⟨_, rfl⟩, rfl, rfl⟩
 refine go ?_
 refine jA [1] (D_below qb qa qc ql p_q s_q (by omega) (by omega) (n + 1) (by omega)) (hpre := fun w hw => ⟨hw.seeOut_ hs_qa (hpre.2), hw.apart hs_qa (hpre.2) (by simp)⟩) ?_
 rintro _ _ ⟨qp_4, qs_5, n_7, fq_6, f_8, rfl, rfl⟩
 refine go ?_
 by_cases h_10 : ((i_ : Nat) : Int) < ((n_7 : Nat) : Int)
 · have hp3 : 3 ^ i_ ≤ 3 ^ 5 := Nat.pow_le_pow_right (by decide) (by omega)
   have hp3p : 1 ≤ 3 ^ i_ := Nat.pos_of_ne_zero (by simp)
   have hp3s : 3 ^ (i_ + 1) = 3 * 3 ^ i_ := by rw [Nat.pow_succ]; omega
   refine go ?_
   refine jA [0] (D_below qb qa qc ql qp_4 qs_5 (by omega) (by omega) 2 (by omega)) (hpre := fun w hw => ⟨hw.seeOut_ hs_qa (hpre.2), hw.apart hs_qa (hpre.2) (by simp)⟩) ?_
   rintro _ _ ⟨qp_11, qs_12, n_14, fq_13, f_15, rfl, rfl⟩
   refine go ?_
   refine jA [0] (D_call13 qb qa qc ql qp_11 qs_12 (by omega) (by omega)) (hpre := fun w hw => ⟨hw.seeOut_ hs_qa (hpre.2), hw.apart hs_qa (hpre.2) (by simp)⟩) ?_
   rintro _ _ ⟨qp_17, qs_18, C_20, fq_19, f_21, rfl, rfl⟩
   obtain ⟨f_211, f_212, f_213, f_214, f_215, f_216⟩ := id f_21
   refine jA [] (D_callOn o_a o_c o_ ((1 + n_14 : Nat) : Int) C_20 (by have hl_ := (hO).1; omega) (by omega) f_21 hO (by omega)) (hpre := fun w hw => hw.see (i := 1) rfl) ?_
   rintro _ _ ⟨x_23, m_24, A_25, e_26, k_27, f_28, rfl, rfl⟩
   refine go ?_
   exact jP [0, 2] ⟨(i_ + 1), qp_17, qs_18, x_23.a0, x_23.c0, m_24.s, (by omega), (by omega), (k_27.okC'.mono (by omega)), (hG.call e_26), EL.go, rfl, rfl⟩
 have hp3 : 3 ^ i_ ≤ 3 ^ 6 := Nat.pow_le_pow_right (by decide) (by omega)
 have hp3p : 1 ≤ 3 ^ i_ := Nat.pos_of_ne_zero (by simp)
 have hp3s : 3 ^ (i_ + 1) = 3 * 3 ^ i_ := by rw [Nat.pow_succ]; omega
 refine go ?_
 refine jE (.inl rfl) rfl (jC (v := .slice o_a o_.length o_c) rfl) (List.Sublist.refl _) ?_
 exact ⟨qp_4, qs_5, o_a, o_c, o_, (by omega), ⟨hO.mono (by omega), hG⟩, rfl, rfl⟩
end Go.Proofs.YthlfmbbaomdciaaGreatDoor
namespace Go.Proofs.YthlfmbbaomdciaaGreatDoor
open Go Go.RowKit
theorem sumT_mono {G G' : Nat → Nat} {T : Nat} (h : ∀ i, G i ≤ G' i) : ∀ j, sumT G T j ≤ sumT G' T j
 | 0 => Nat.le_refl _
 | j + 1 => by rw [sumT_step, sumT_step]; have := h j; have := sumT_mono (T := T) h j; omega
theorem gro_mono {S S' : Nat} (h : S ≤ S') (j : Nat) : gro S j ≤ gro S' j := Nat.add_le_add h (Nat.mul_le_mul_left _ (by omega))
theorem groT_mono {S S' T : Nat} (h : S ≤ S') (j : Nat) : groT S T j ≤ groT S' T j := sumT_mono (fun i => gro_mono h i) j
theorem stInv.new : stInv 0 (TD.new 1 1 1) := ⟨rfl, rfl, rfl, (fun _ h => by cases h), Nat.zero_le _, Nat.zero_le _, rfl, rfl⟩
theorem mkInv.new : mkInv 0 (TD.new 1 1 1) := ⟨rfl, rfl, rfl, (fun _ h => by cases h), Nat.zero_le _, Nat.zero_le _, rfl, rfl⟩
theorem xInv.new {a b c : Int} (h : 0 ≤ c ∧ c ≤ 9) : xInv 0 (TD.new a b c) := ⟨rfl, h, rfl, (fun _ h => by cases h), Nat.zero_le _, Nat.zero_le _, rfl, Nat.zero_le _⟩
theorem findAt_mem_lt {α : Type} {p : α → Bool} : ∀ {l : List α} {x : α}, x ∈ l → p x = true → findAt p l < l.length
 | [], x, hx, _ => by cases hx
 | y :: l, x, hx, hp => by
   unfold findAt
   split
   · simp
   · rename_i hy
     rcases List.mem_cons.1 hx with rfl | hx
     · exact absurd hp hy
     · have := findAt_mem_lt hx hp
       simp only [List.length_cons]; omega
theorem findAt_lt_any {α : Type} {p : α → Bool} : ∀ {l : List α}, findAt p l < l.length → l.any p = true
 | [], h => by simp at h
 | y :: l, h => by
   unfold findAt at h
   split at h
   · rename_i hy; simp [hy]
   · rename_i hy
     have := findAt_lt_any (p := p) (l := l) (by simp only [List.length_cons] at h; omega)
     simp [this]
theorem idxI_any {α : Type} {p : α → Bool} {l : List α} : decide (0 ≤ idxI p l) = l.any p := by
 rcases idxI_lo p l with ⟨h, h2⟩ | ⟨h, h2⟩
 · rw [h]
   have : l.any p = false := by
     rw [List.any_eq_false]
     intro x hx hp
     have := findAt_mem_lt (p := p) hx hp
     omega
   rw [this]; rfl
 · rw [h, decide_eq_true (by omega)]
   exact (findAt_lt_any h2).symm
end Go.Proofs.YthlfmbbaomdciaaGreatDoor
namespace Go.Proofs.YthlfmbbaomdciaaGreatDoor
open Go Go.RowKit
section
variable {P : Program} {ops : Array Oper} {Q : Exit → Act → World → Prop} {n : Nat} {w0 : World} {D : List Nat} {L M : List Res} {e : Env} {z fuel : Nat} {listed : Array Bool}
theorem jn {i : Nat} {o : Oper} {Φ : Value → List Res → Prop} {j : Nat} {b : Bool} {t : Tmp} (hi : ops[i]? = some o) (hg : o.guard = some (j, b)) (hj : (ops[j]?).bind (·.dst) = some t) (ht : Nat.blt t n = true) (hv : e t = .bool b) (ho : JO P n w0 D L e o Φ)
   (h : ∀ v L', Φ v L' → (∀ r ∈ M, r ∈ L') ∧ JA P ops Q n w0 D M z fuel (listed.setIfInBounds i true) L' (updO e o.dst v)) : JX P ops Q n w0 D M z fuel listed L e i := fun w hw => by
 have hlt : t < n := (Nat.blt_eq (x := t) (y := n)) ▸ ht
 have hyy : yielded ops (act n e).tmps j = some b := by simp [yielded, hj, act, hlt, hv]
 unfold wpOp
 simp only [hi]
 rw [if_pos (by simp [Region.wanted, hg, hyy])]
 refine .inl (ho w hw _ Q fun v L' w' hΦ hw' => ?_)
 obtain ⟨h1, h2⟩ := h v L' hΦ
 have hq := hw'.qw.sub h1
 exact ⟨fun _ => .inr hq, h2 w' hw' hq⟩
end
attribute [local irreducible] JL JC JQ JO LO PO JA JX Ct
end Go.Proofs.YthlfmbbaomdciaaGreatDoor
namespace Go.Proofs.YthlfmbbaomdciaaGreatDoor
open Go Go.RowKit
theorem askG {c : Prop} {n : Nat} (h : c → n ≤ 2800000) : c → n ≤ 28000000 := fun q => Nat.le_trans (h q) (by decide)
theorem askT {c : Prop} {n : Nat} (h : c → n ≤ 20000000) : c → n ≤ 1000000000 := fun q => Nat.le_trans (h q) (by decide)
theorem askB {c : Prop} {n : Nat} (h : c → n ≤ 2800000) : c → 7 * n + 200 ≤ 20000000 := fun q => by have := h q; omega
attribute [local irreducible] JL JC JQ JO LO PO JA JX Ct

set_option maxRecDepth 4000 in
theorem Y_specTxMark (p : TX) (hl : p.t.lim 1000000000) :
   Ct Tryz.prog 360 [.agg #[.int .i64 p.t.id, .int .i64 p.t.age, .int .i64 p.t.proc, .int .i64 p.t.began, .slice p.x.a0 p.t.calls.length p.x.c0, .slice p.x.a1 p.t.ans.length p.x.c1, .slice p.x.a2 p.t.rd.length p.x.c2, .slice p.x.a3 p.t.wr.length p.x.c3, .slice p.x.a4 p.t.marks.length p.x.c4, .int .i64 p.t.state]] [] (fun w => SeesA w (rdsX p)) (fun v A' => ∃ z : TX, z.t = p.t.mark.1 ∧ v = .tuple #[.agg #[.int .i64 z.t.id, .int .i64 z.t.age, .int .i64 z.t.proc, .int .i64 z.t.began, .slice z.x.a0 z.t.calls.length z.x.c0, .slice z.x.a1 z.t.ans.length z.x.c1, .slice z.x.a2 z.t.rd.length z.x.c2, .slice z.x.a3 z.t.wr.length z.x.c3, .slice z.x.a4 z.t.marks.length z.x.c4, .int .i64 z.t.state], .int .i64 p.t.mark.2] ∧ A' = [.rows (rdsX z)]) := by
 refine Ct.intro Tryz.func360 rfl Tryz.ntmps360 (lb rfl) fun w0 hpre => ?_
 obtain ⟨hs_1, hs_2, hs_3, hs_4, hs_5⟩ := seesX hpre
 have hlp := hl
 obtain ⟨hb_6, hb_7, hb_8, hb_9, hb_10⟩ := hl
 refine go ?_
 refine jM (xc p) fun b_11 => ?_
 refine jG xzc fun b_12 => ?_
 refine go ?_
 refine jA [] (Z_specl17Copy p hlp) (hpre := fun w hw => hw.seeOutA hpre nMA) ?_
 rintro _ _ ⟨y_13, hy_14, rfl, rfl⟩
 refine jD 2 (xc y_13) ?_
 refine go ?_
 by_cases h_15 : y_13.t.state = 1
 · refine go ?_
   by_cases h_16 : 4 ≤ ((y_13.t.marks.length : Nat) : Int)
   · refine go ?_
     refine jD 1 (xc y_13) ?_
     refine go ?_
     refine ji (.inl rfl) rfl (js (jl 1 (vs := (xc y_13)) rfl rfl kT kQ rfl rfl) ⟨_, rfl⟩) (jC (v := iv 0) rfl) (tS 1 _) ?_
     have hst : y_13.t.state = p.t.state := congrArg TD.state hy_14
     have hml : y_13.t.marks.length = p.t.marks.length := by rw [hy_14]
     have hm : p.t.mark = (p.t, 0) := if_neg (by omega)
     exact ⟨y_13, by rw [hm]; exact hy_14, by rw [hm], rfl⟩
   refine JC.condF (cB (dF h_16)) <| JC.skip <| jT <| jc <| JC.ghost (L' := [Res.row (.slice y_13.x.a0 y_13.t.calls.length y_13.x.c0) 43 6 y_13.t.calls.length (y_13.t.calls.flatMap encK), Res.row (.slice y_13.x.a1 y_13.t.ans.length y_13.x.c1) 39 3 y_13.t.ans.length (y_13.t.ans.flatMap encA), rS y_13.x.a2 y_13.x.c2 y_13.t.rd, rS y_13.x.a3 y_13.x.c3 y_13.t.wr, rI y_13.x.a4 y_13.x.c4 y_13.t.marks, bk b_12 35 xzc, bk b_11 35 (xc y_13)]) (fun w hw => hw.openR 0 rfl) ?_
   have hst : y_13.t.state = p.t.state := congrArg TD.state hy_14
   have hml : y_13.t.marks.length = p.t.marks.length := by rw [hy_14]
   refine go ?_
   refine jF rfl (jR (ps := [(0, nv y_13.t.calls.length)]) (cur := #[nv y_13.t.calls.length]) kL kS kZ rfl (by kernel_rfl) (by decide) (by decide)) ?_
   rintro _ _ ⟨a_17, rfl, rfl⟩
   refine jF rfl (jX 5 (q := 1) (news := ([((y_13.t.calls.length : Nat) : Int)] : List Int).map (Value.int .i64)) (n' := (y_13.t.marks ++ ([((y_13.t.calls.length : Nat) : Int)] : List Int)).length) (cs' := (y_13.t.marks ++ ([((y_13.t.calls.length : Nat) : Int)] : List Int)).map (Value.int .i64)) rfl kL kL kl rfl (by' := 8) rfl rfl rfl rfl rfl (fun w hw => Src.sees (hw.see (i := 0) rfl) (oneI _)) (by (try simp only [LE]); omega) (by (try simp only [LE]); omega) (by simp only [List.length_append, List.length_take, List.length_drop, List.length_cons, List.length_nil] <;> first | rfl | omega) (by simp only [List.map_append])) ?_
   rintro _ _ ⟨a_18, c_19, rfl, rfl⟩
   refine go ?_
   refine jD 7 [iv y_13.t.id, iv y_13.t.age, iv y_13.t.proc, iv y_13.t.began, .slice y_13.x.a0 y_13.t.calls.length y_13.x.c0, .slice y_13.x.a1 y_13.t.ans.length y_13.x.c1, .slice y_13.x.a2 y_13.t.rd.length y_13.x.c2, .slice y_13.x.a3 y_13.t.wr.length y_13.x.c3, .slice a_18 ((y_13.t.marks ++ ([((y_13.t.calls.length : Nat) : Int)] : List Int)).length) c_19, iv y_13.t.state] ?_
   refine go ?_
   refine jH [0, 0, 0, 0, 0, 0, 1] 5 ?_
   refine go ?_
   refine jB (i := 4) ?_
   refine jp 6 [iv y_13.t.id, iv y_13.t.age, iv y_13.t.proc, iv y_13.t.began, .slice y_13.x.a0 y_13.t.calls.length y_13.x.c0, .slice y_13.x.a1 y_13.t.ans.length y_13.x.c1, .slice y_13.x.a2 y_13.t.rd.length y_13.x.c2, .slice y_13.x.a3 y_13.t.wr.length y_13.x.c3, .slice a_18 ((y_13.t.marks ++ ([((y_13.t.calls.length : Nat) : Int)] : List Int)).length) c_19, iv y_13.t.state] ?_
   refine gQ ?_
   refine JA.done (by kernel_rfl) <| jT <| jz <| cloJ (rdsX (⟨⟨y_13.x.a0, y_13.x.c0, y_13.x.a1, y_13.x.c1, y_13.x.a2, y_13.x.c2, y_13.x.a3, y_13.x.c3, a_18, c_19⟩, ⟨y_13.t.id, y_13.t.age, y_13.t.proc, y_13.t.began, y_13.t.calls, y_13.t.ans, y_13.t.rd, y_13.t.wr, (y_13.t.marks ++ ([((y_13.t.calls.length : Nat) : Int)] : List Int)), y_13.t.state⟩⟩ : TX)) [1, 1, 1, 1, 1] <| ji (.inl rfl) rfl (js (jl 2 (vs := [iv y_13.t.id, iv y_13.t.age, iv y_13.t.proc, iv y_13.t.began, .slice y_13.x.a0 y_13.t.calls.length y_13.x.c0, .slice y_13.x.a1 y_13.t.ans.length y_13.x.c1, .slice y_13.x.a2 y_13.t.rd.length y_13.x.c2, .slice y_13.x.a3 y_13.t.wr.length y_13.x.c3, .slice a_18 ((y_13.t.marks ++ ([((y_13.t.calls.length : Nat) : Int)] : List Int)).length) c_19, iv y_13.t.state]) rfl rfl kT kQ rfl rfl) ⟨_, rfl⟩) (jC (v := iv (((y_13.t.marks ++ ([((y_13.t.calls.length : Nat) : Int)] : List Int)).length : Nat) : Int)) rfl) (tS 1 _) ?_
   have hm : p.t.mark = ((⟨⟨y_13.x.a0, y_13.x.c0, y_13.x.a1, y_13.x.c1, y_13.x.a2, y_13.x.c2, y_13.x.a3, y_13.x.c3, a_18, c_19⟩, ⟨y_13.t.id, y_13.t.age, y_13.t.proc, y_13.t.began, y_13.t.calls, y_13.t.ans, y_13.t.rd, y_13.t.wr, (y_13.t.marks ++ ([((y_13.t.calls.length : Nat) : Int)] : List Int)), y_13.t.state⟩⟩ : TX).t, ((p.t.marks.length + 1 : Nat) : Int)) := by rw [← hy_14]; unfold TD.mark; rw [if_pos (by omega)]
   exact ⟨(⟨⟨y_13.x.a0, y_13.x.c0, y_13.x.a1, y_13.x.c1, y_13.x.a2, y_13.x.c2, y_13.x.a3, y_13.x.c3, a_18, c_19⟩, ⟨y_13.t.id, y_13.t.age, y_13.t.proc, y_13.t.began, y_13.t.calls, y_13.t.ans, y_13.t.rd, y_13.t.wr, (y_13.t.marks ++ ([((y_13.t.calls.length : Nat) : Int)] : List Int)), y_13.t.state⟩⟩ : TX), by rw [hm], by rw [hm]; (first | rfl | (simp only [List.length_append, List.length_cons, List.length_nil, hml]; done)), rfl⟩
 refine go ?_
 refine jD 1 (xc y_13) ?_
 refine go ?_
 refine ji (.inl rfl) rfl (js (jl 1 (vs := (xc y_13)) rfl rfl kT kQ rfl rfl) ⟨_, rfl⟩) (jC (v := iv 0) rfl) (tS 1 _) ?_
 have hst : y_13.t.state = p.t.state := congrArg TD.state hy_14
 have hml : y_13.t.marks.length = p.t.marks.length := by rw [hy_14]
 have hm : p.t.mark = (p.t, 0) := if_neg (by omega)
 exact ⟨y_13, by rw [hm]; exact hy_14, by rw [hm], rfl⟩

theorem Y_sTxNew (a b c : Int) :
   Ct Tryz.prog 55 [.int .i64 a, .int .i64 b, .int .i64 c] [] (fun _ => True) (fun v A' => ∃ z : TX, z.t = TD.new a b c ∧ v = .agg #[.int .i64 z.t.id, .int .i64 z.t.age, .int .i64 z.t.proc, .int .i64 z.t.began, .slice z.x.a0 z.t.calls.length z.x.c0, .slice z.x.a1 z.t.ans.length z.x.c1, .slice z.x.a2 z.t.rd.length z.x.c2, .slice z.x.a3 z.t.wr.length z.x.c3, .slice z.x.a4 z.t.marks.length z.x.c4, .int .i64 z.t.state] ∧ A' = [.rows (rdsX z)]) := by
 refine Ct.intro Tryz.func55 rfl Tryz.ntmps55 (lb rfl) fun w0 hpre => ?_
 refine go ?_
 refine jG xzc fun b_1 => ?_
 refine go ?_
 refine jK (je (ps := [(0, iv a), (1, iv b), (2, iv c), (8, iv 1)]) (cs := [iv a, iv b, iv c, iv 0, .slice none 0 0, .slice none 0 0, .slice none 0 0, .slice none 0 0, .slice none 0 0, iv 1]) rfl (by kernel_rfl)) ?_
 refine jD 0 [iv a, iv b, iv c, iv 0, .slice none 0 0, .slice none 0 0, .slice none 0 0, .slice none 0 0, .slice none 0 0, iv 1] ?_
 refine go ?_
 refine JQ.nilRow 43 6 ?_
 refine JQ.nilRow 39 3 ?_
 refine JQ.nilRow 9 1 ?_
 refine JQ.nilRow 9 1 ?_
 refine JQ.nilRow 3 1 ?_
 refine cloJ (rdsX (⟨⟨none, 0, none, 0, none, 0, none, 0, none, 0⟩, TD.new a b c⟩ : TX)) [4, 3, 2, 1, 0] ?_
 exact jJ [0] ⟨(⟨⟨none, 0, none, 0, none, 0, none, 0, none, 0⟩, TD.new a b c⟩ : TX), rfl, rfl, rfl⟩
end Go.Proofs.YthlfmbbaomdciaaGreatDoor
