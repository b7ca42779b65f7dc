/-
Texts of the walk, joined: what each one proves stands at its theorems.
-/
import Derived.Test.YthlfmbbaomdciaaGreatDoorXTwoApartDatTy
set_option linter.unusedSimpArgs false
set_option linter.unusedVariables false
set_option linter.unnecessarySimpa false
set_option maxHeartbeats 4000000
set_option maxRecDepth 4000
namespace Go.Proofs.YthlfmbbaomdciaaGreatDoor
open Go Go.RowKit
theorem sees_two {w : World} {x y : TX} (hx : SeesA w (rdsX x)) (hy : SeesA w (rdsX y)) : SeesA w (([x, y] : List TX).flatMap rdsX) := by
 simp only [List.flatMap_cons, List.flatMap_nil, List.append_nil]
 exact hx.app hy
theorem okz_two {x y : TX} (a : okS x.t.rd) (b : okS x.t.wr) (c : okS y.t.rd) (d : okS y.t.wr) : ∀ j, j < ([x, y] : List TX).length → okS (([x, y] : List TX).getD j x0).t.rd ∧ okS (([x, y] : List TX).getD j x0).t.wr := fun j hj =>
 match j, hj with
 | 0, _ => ⟨a, b⟩
 | 1, _ => ⟨c, d⟩
attribute [local irreducible] JL JC JQ JO LO PO JA JX Ct

set_option maxRecDepth 8000 in
theorem L_TwoApart (pa : Option Addr) (pc : Nat) (p : Str) :
   Ct Tryz.prog 9 [.slice pa p.length pc] [] (fun w => Sees w (.slice pa p.length pc) 1 p.length (p.map encB) ∧ HexOk w) (fun v A' => v = .bool true ∧ A' = []) := by
 refine Ct.introL Tryz.func9 rfl Tryz.ntmps9 (lb rfl) fun w0 hpre hlow => ?_
 have hs_pa : Sees w0 _ _ _ _ := hpre.1
 refine go ?_
 refine jN [] (N_big pa pc p) ?_
 refine go ?_
 by_cases h_1 : 1048576 < ((p.length : Nat) : Int)
 · refine go ?_
   exact jJ [] ⟨rfl, rfl⟩
 refine go ?_
 refine jA [] (D_DrawSerialRun pa pc p (by omega)) (hpre := fun w hw => hw.seeOut_ hs_pa nM) ?_
 rintro _ _ ⟨l_2a, l_2c, l_2, l_4a, l_4c, l_4, f_3, f_5, rfl, rfl⟩
 have hO1_l_2 := f_3.1.1
 refine go ?_
 refine jF rfl (jR (ps := [(0, .int .u8 9)]) (cur := #[.int .u8 9]) kN kg kj rfl (by kernel_rfl) (by decide) (by decide)) ?_
 rintro _ _ ⟨a_7, rfl, rfl⟩
 refine go ?_
 refine jF rfl (jX 0 (q := p.length) (news := p.map encB) (n' := (([9] : List UInt8) ++ p).length) (cs' := (([9] : List UInt8) ++ p).map encB) rfl kN kN Tryz.typeInfo5 rfl (by' := 1) rfl rfl rfl rfl rfl (fun w hw => Src.sees (hw.seeOut_ hs_pa nM) (oneB _)) (by (try simp only [LE]); omega) (by (try simp only [LE]); omega) (by simp only [List.length_append, List.length_take, List.length_drop, List.length_cons, List.length_nil] <;> first | rfl | omega) (by simp only [List.map_append] <;> rfl)) ?_
 rintro _ _ ⟨a_8, c_9, rfl, rfl⟩
 refine jA [] (D_DrawSerialRun a_8 c_9 (([9] : List UInt8) ++ p) (by (try simp only [List.length_append, List.length_cons, List.length_nil]); omega)) (hpre := fun w hw => hw.see (i := 0) rfl) ?_
 rintro _ _ ⟨l_10a, l_10c, l_10, l_12a, l_12c, l_12, f_11, f_13, rfl, rfl⟩
 have hO1_l_10 := f_11.1.1
 refine go ?_
 refine jA [] (Y_iTxNew 1 1 1) ?_
 rintro _ _ ⟨z_15, hz_16, rfl, rfl⟩
 refine jG xzc fun b_17 => ?_
 refine jD 0 (xc z_15) ?_
 refine go ?_
 obtain ⟨hok, hokl⟩ := id f_5
 refine jL (fun k_ e_ L_ => ∃ i_ : Nat, ∃ z : TX, (i_ ≤ l_4.length) ∧ (i_ ≤ 3) ∧ (bInv l_2 l_4 [] [] [] 1 i_ i_ z.t) ∧ EL e_ [(2, .bool false), (3, .slice l_2a l_2.length l_2c), (4, .slice l_4a l_4.length l_4c), (6, .slice l_12a l_12.length l_12c), (7, .pointer (some ⟨b_17, 0, none⟩)), (8, nv i_)] ∧ L_ = [bk b_17 35 (xc z), Res.rows (rdsX z), rC l_10a l_10c l_10, Res.row (.slice l_12a l_12.length l_12c) 45 7 l_12.length (l_12.flatMap encP), Res.row (.slice a_8 (([9] : List UInt8) ++ p).length c_9) 5 1 (([9] : List UInt8) ++ p).length ((([9] : List UInt8) ++ p).map encB), rC l_2a l_2c l_2, Res.row (.slice l_4a l_4.length l_4c) 45 7 l_4.length (l_4.flatMap encP)] ∧ k_ = l_4.length - i_) _ ⟨0, z_15, by omega, by omega, (by rw [hz_16]; exact bInv.fresh2 (by decide)), EL.go, rfl, rfl⟩ ?_
 rintro _ _ _ ⟨i_, z, hii_, hti_, hI, ⟨_, rfl⟩, rfl, rfl⟩
 have hIn := hI.n
 have hIr := hI.rl
 have hIw := hI.wl
 refine jc <| jc ?_
 refine JC.cut (fun e_ L_ => ∃ qi_ : Bool, (qi_ = decide (i_ < l_4.length ∧ i_ < 3)) ∧ EL e_ [(2, .bool false), (3, .slice l_2a l_2.length l_2c), (4, .slice l_4a l_4.length l_4c), (6, .slice l_12a l_12.length l_12c), (7, .pointer (some ⟨b_17, 0, none⟩)), (8, nv i_), (35, .bool qi_)] ∧ L_ = [bk b_17 35 (xc z), Res.rows (rdsX z), rC l_10a l_10c l_10, Res.row (.slice l_12a l_12.length l_12c) 45 7 l_12.length (l_12.flatMap encP), Res.row (.slice a_8 (([9] : List UInt8) ++ p).length c_9) 5 1 (([9] : List UInt8) ++ p).length ((([9] : List UInt8) ++ p).map encB), rC l_2a l_2c l_2, Res.row (.slice l_4a l_4.length l_4c) 45 7 l_4.length (l_4.flatMap encP)]) ?_ ?_
 · refine go ?_
   by_cases h_18 : ((i_ : Nat) : Int) < ((l_4.length : Nat) : Int)
   · refine go ?_
     exact jh [0, 0, 0, 0, 0, 0, 0] ⟨(decide (((i_ : Nat) : Int) < 3)), (decide_eq_decide.2 (by omega)), EL.go, rfl⟩
   refine go ?_
   exact jh [0, 0, 0, 0, 0, 0, 0] ⟨false, (dF (by omega)).symm, EL.go, rfl⟩
 rintro _ _ ⟨qi_, hqi_, ⟨_, rfl⟩, rfl⟩
 obtain rfl := hqi_
 refine go ?_
 by_cases h_19 : i_ < l_4.length ∧ i_ < 3
 · refine go ?_
   have hok_ := hok i_ (by omega)
   refine jH [0] 11 ?_
   refine go ?_
   refine JA.facts fun hst => ?_
   obtain ⟨hr_20, hr_20b, -⟩ := row_some 6 rfl (by omega) hst
   refine go ?_
   refine jB (i := 6) ?_
   refine ja rfl rfl (jm (LO.loadRK 6 (vs := [iv (l_4.getD i_ p0_).call.kind, str (l_4.getD i_ p0_).call.name, str (l_4.getD i_ p0_).call.to_, iv (l_4.getD i_ p0_).call.a, iv (l_4.getD i_ p0_).call.b, str (l_4.getD i_ p0_).call.text]) rfl rfl ki kX (flat_part encP_len p0_ l_4 i_ 1 6 (by omega) (by decide)) rfl (by decide))) ?_
   rintro _ _ ⟨rfl, rfl⟩
   refine ⟨all_go, ?_⟩
   refine jB (i := 7) ?_
   refine jI [] (Y_iTxAsk z (hI.lim (by omega) (by omega) (by decide)) l_2a l_2c l_2 10935 f_3.1 (by omega) (hI.okT hok (by omega)) (askG (fun h_ => growR (by omega))) (askT (fun h_ => growTR (by omega))) 20000000 (askB (fun h_ => growR (by omega))) (l_4.getD i_ p0_).call hok_.1) (hpre := fun w hw => ⟨hw.see (i := 5) rfl, hw.seeRows 1 rfl, hw.hex hlow hpre.2⟩) ?_
   rintro _ _ ⟨z_26, A_27, e_28, ha_29, hb_30, rfl, rfl⟩
   refine go ?_
   refine jB (i := 11) ?_
   refine jS 1 (xc z_26) ?_
   refine go ?_
   have hst := hI.step (by omega) (by omega) srt.nil srt.nil e_28 hb_30
   refine go ?_
   exact jP [1, 0, 1, 1, 1, 1, 1] ⟨i_ + 1, z_26, by omega, by omega, hst, EL.go, rfl, rfl⟩
 refine go ?_
 refine jA [] (Y_iTxNew 2 2 2) ?_
 rintro _ _ ⟨z_31, hz_32, rfl, rfl⟩
 refine jG xzc fun b_33 => ?_
 refine jD 0 (xc z_31) ?_
 refine go ?_
 obtain ⟨hko, hkol⟩ := id f_13
 refine jL (fun k_ e_ L_ => ∃ n_ : Nat, ∃ u : TX, (n_ ≤ l_12.length) ∧ (n_ ≤ 3) ∧ (bInv l_2 l_12 [] [] [] 2 n_ n_ u.t) ∧ EL e_ [(2, .bool false), (3, .slice l_2a l_2.length l_2c), (6, .slice l_12a l_12.length l_12c), (7, .pointer (some ⟨b_17, 0, none⟩)), (9, .pointer (some ⟨b_33, 0, none⟩)), (10, nv n_)] ∧ L_ = [bk b_33 35 (xc u), Res.rows (rdsX u), bk b_17 35 (xc z), Res.rows (rdsX z), rC l_10a l_10c l_10, Res.row (.slice l_12a l_12.length l_12c) 45 7 l_12.length (l_12.flatMap encP), Res.row (.slice a_8 (([9] : List UInt8) ++ p).length c_9) 5 1 (([9] : List UInt8) ++ p).length ((([9] : List UInt8) ++ p).map encB), rC l_2a l_2c l_2, Res.row (.slice l_4a l_4.length l_4c) 45 7 l_4.length (l_4.flatMap encP)] ∧ k_ = l_12.length - n_) _ ⟨0, z_31, by omega, by omega, (by rw [hz_32]; exact bInv.fresh2 (by decide)), EL.go, rfl, rfl⟩ ?_
 rintro _ _ _ ⟨n_, u, hin_, htn_, hJ, ⟨_, rfl⟩, rfl, rfl⟩
 have hJn := hJ.n
 have hJr := hJ.rl
 have hJw := hJ.wl
 refine jc <| jc ?_
 refine JC.cut (fun e_ L_ => ∃ qn_ : Bool, (qn_ = decide (n_ < l_12.length ∧ n_ < 3)) ∧ EL e_ [(2, .bool false), (3, .slice l_2a l_2.length l_2c), (6, .slice l_12a l_12.length l_12c), (7, .pointer (some ⟨b_17, 0, none⟩)), (9, .pointer (some ⟨b_33, 0, none⟩)), (10, nv n_), (57, .bool qn_)] ∧ L_ = [bk b_33 35 (xc u), Res.rows (rdsX u), bk b_17 35 (xc z), Res.rows (rdsX z), rC l_10a l_10c l_10, Res.row (.slice l_12a l_12.length l_12c) 45 7 l_12.length (l_12.flatMap encP), Res.row (.slice a_8 (([9] : List UInt8) ++ p).length c_9) 5 1 (([9] : List UInt8) ++ p).length ((([9] : List UInt8) ++ p).map encB), rC l_2a l_2c l_2, Res.row (.slice l_4a l_4.length l_4c) 45 7 l_4.length (l_4.flatMap encP)]) ?_ ?_
 · refine go ?_
   by_cases h_34 : ((n_ : Nat) : Int) < ((l_12.length : Nat) : Int)
   · refine go ?_
     exact jh [0, 0, 0, 0, 0, 0, 0, 0, 0] ⟨(decide (((n_ : Nat) : Int) < 3)), (decide_eq_decide.2 (by omega)), EL.go, rfl⟩
   refine go ?_
   exact jh [0, 0, 0, 0, 0, 0, 0, 0, 0] ⟨false, (dF (by omega)).symm, EL.go, rfl⟩
 rintro _ _ ⟨qn_, hqn_, ⟨_, rfl⟩, rfl⟩
 obtain rfl := hqn_
 refine go ?_
 by_cases h_35 : n_ < l_12.length ∧ n_ < 3
 · refine go ?_
   have hok_ := hko n_ (by omega)
   refine jH [0] 11 ?_
   refine go ?_
   refine JA.facts fun hst => ?_
   obtain ⟨hr_36, hr_36b, -⟩ := row_some 5 rfl (by omega) hst
   refine go ?_
   refine jB (i := 6) ?_
   refine ja rfl rfl (jm (LO.loadRK 5 (vs := [iv (l_12.getD n_ p0_).call.kind, str (l_12.getD n_ p0_).call.name, str (l_12.getD n_ p0_).call.to_, iv (l_12.getD n_ p0_).call.a, iv (l_12.getD n_ p0_).call.b, str (l_12.getD n_ p0_).call.text]) rfl rfl ki kX (flat_part encP_len p0_ l_12 n_ 1 6 (by omega) (by decide)) rfl (by decide))) ?_
   rintro _ _ ⟨rfl, rfl⟩
   refine ⟨all_go, ?_⟩
   refine jB (i := 7) ?_
   refine jI [] (Y_iTxAsk u (hJ.lim (by omega) (by omega) (by decide)) l_2a l_2c l_2 10935 f_3.1 (by omega) (hJ.okT hko (by omega)) (askG (fun h_ => growR (by omega))) (askT (fun h_ => growTR (by omega))) 20000000 (askB (fun h_ => growR (by omega))) (l_12.getD n_ p0_).call hok_.1) (hpre := fun w hw => ⟨hw.see (i := 7) rfl, hw.seeRows 1 rfl, hw.hex hlow hpre.2⟩) ?_
   rintro _ _ ⟨z_42, A_43, e_44, ha_45, hb_46, rfl, rfl⟩
   refine go ?_
   refine jB (i := 11) ?_
   refine jS 1 (xc z_42) ?_
   refine go ?_
   have hst := hJ.step (by omega) (by omega) srt.nil srt.nil e_44 hb_46
   refine go ?_
   exact jP [1, 0, 1, 1, 1, 1, 1, 1, 1] ⟨n_ + 1, z_42, by omega, by omega, hst, EL.go, rfl, rfl⟩
 refine go ?_
 have hO_ := (f_3.1).1
 have hrd_z := hI.okR hok f_3.1 (fun _ h_ => by cases h_)
 have hrd_zS := hrd_z.okS (by omega)
 have hwr_z := hI.okW hok f_3.1 (fun _ h_ => by cases h_)
 have hwr_zS := hwr_z.okS (by omega)
 have hrd_u := hJ.okR hko f_3.1 (fun _ h_ => by cases h_)
 have hrd_uS := hrd_u.okS (by omega)
 have hwr_u := hJ.okW hko f_3.1 (fun _ h_ => by cases h_)
 have hwr_uS := hwr_u.okS (by omega)
 refine go ?_
 refine jF rfl (jR (ps := [(0, (xv z)), (1, (xv u))]) (cur := #[iv z.t.id, iv z.t.age, iv z.t.proc, iv z.t.began, .slice z.x.a0 z.t.calls.length z.x.c0, .slice z.x.a1 z.t.ans.length z.x.c1, .slice z.x.a2 z.t.rd.length z.x.c2, .slice z.x.a3 z.t.wr.length z.x.c3, .slice z.x.a4 z.t.marks.length z.x.c4, iv z.t.state, iv u.t.id, iv u.t.age, iv u.t.proc, iv u.t.began, .slice u.x.a0 u.t.calls.length u.x.c0, .slice u.x.a1 u.t.ans.length u.x.c1, .slice u.x.a2 u.t.rd.length u.x.c2, .slice u.x.a3 u.t.wr.length u.x.c3, .slice u.x.a4 u.t.marks.length u.x.c4, iv u.t.state]) km kQ Tryz.zeroValue35 rfl (by kernel_rfl) (by decide) (by decide)) ?_
 rintro _ _ ⟨a_47, rfl, rfl⟩
 refine jN [] (Y_implApart a_47 2 ([z, u] : List TX) (show 2 ≤ 1000000000 by decide) (okz_two hrd_zS hwr_zS hrd_uS hwr_uS)) (hpre := fun w hw => SeesA.cons (hw.see (i := 0) rfl) (sees_two (hw.seeRows 4 rfl) (hw.seeRows 2 rfl))) ?_
 refine go ?_
 rcases Bool.eq_false_or_eq_true (apartAll (([z, u] : List TX).map TX.t)) with h_48 | h_48
 · refine go ?_
   obtain ⟨hE1, hE2, hE3⟩ := two_end f_3.2 hI hJ h_48
   refine go ?_
   refine jA [] (Y_iTxLaid z (hI.lim (by omega) (by omega) (by decide)) l_2a l_2c l_2 10935 f_3.1 (by omega) (hI.okT hok (by omega)) (Nat.le_trans (growW (by omega) (by omega)) (by decide)) (Nat.le_trans (growTW (by omega) (by omega)) (by decide)) hwr_z) (hpre := fun w hw => ⟨hw.see (i := 8) rfl, hw.seeRows 4 rfl, hw.hex hlow hpre.2⟩) ?_
   rintro _ _ ⟨a_49, c_50, hO_53, rfl, rfl⟩
   have hll_54 := laidW_len l_2 (viewA l_2 z.t) z.t.wr
   refine go ?_
   refine jA [] (Y_iTxLaid u (hJ.lim (by omega) (by omega) (by decide)) l_2a l_2c l_2 10935 f_3.1 (by omega) (hJ.okT hko (by omega)) (Nat.le_trans (growW (by omega) (by omega)) (by decide)) (Nat.le_trans (growTW (by omega) (by omega)) (by decide)) hwr_u) (hpre := fun w hw => ⟨hw.see (i := 9) rfl, hw.seeRows 3 rfl, hw.hex hlow hpre.2⟩) ?_
   rintro _ _ ⟨a_55, c_56, hO_59, rfl, rfl⟩
   have hll_60 := laidW_len l_2 (viewA l_2 u.t) u.t.wr
   refine go ?_
   have hA := hI.laidC f_3.2 (by omega) hO_53
   have hA1 := hA.1
   have hB := hJ.laidC f_3.2 (by omega) hO_59
   have hB1 := hB.1
   refine jH [3, 4] 17 ?_
   refine go ?_
   refine jB (i := 2) ?_
   refine jI [] (Y_iRight u (hJ.lim (by omega) (by omega) (by decide)) a_49 c_50 (laidW l_2 (viewA l_2 z.t) z.t.wr) 295505 hA (by omega) (hJ.okT hko (by omega)) (Nat.le_trans (growW (by omega) (by omega)) (by decide)) (Nat.le_trans (growTW (by omega) (by omega)) (by decide))) (hpre := fun w hw => ⟨hw.see (i := 1) rfl, hw.seeRows 4 rfl, hw.hex hlow hpre.2⟩) ?_
   rintro _ _ ⟨rfl, rfl⟩
   refine go ?_
   refine jB (i := 6) ?_
   refine jn rfl rfl rfl rfl (cB hE1) (jO [] Tryz.call50 rfl (Y_iRight z (hI.lim (by omega) (by omega) (by decide)) a_55 c_56 (laidW l_2 (viewA l_2 u.t) u.t.wr) 295505 hB (by omega) (hI.okT hok (by omega)) (Nat.le_trans (growW (by omega) (by omega)) (by decide)) (Nat.le_trans (growTW (by omega) (by omega)) (by decide))) rfl (fun w hw => ⟨hw.see (i := 0) rfl, hw.seeRows 6 rfl, hw.hex hlow hpre.2⟩)) ?_
   rintro _ _ ⟨_, ⟨rfl, rfl⟩, rfl⟩
   refine ⟨all_go, ?_⟩
   refine go ?_
   refine jB (i := 11) ?_
   refine jn rfl rfl rfl rfl (cB hE2) (jO [] Tryz.call31 rfl (Y_iTxLaid u (hJ.lim (by omega) (by omega) (by decide)) a_49 c_50 (laidW l_2 (viewA l_2 z.t) z.t.wr) 295505 hA (by omega) (hJ.okT hko (by omega)) (Nat.le_trans (growW (by omega) (by omega)) (by decide)) (Nat.le_trans (growTW (by omega) (by omega)) (by decide)) hwr_u) rfl (fun w hw => ⟨hw.see (i := 1) rfl, hw.seeRows 4 rfl, hw.hex hlow hpre.2⟩)) ?_
   rintro _ _ ⟨_, ⟨a_79, c_80, hO_83, rfl, rfl⟩, rfl⟩
   have hll_84 := laidW_len (laidW l_2 (viewA l_2 z.t) z.t.wr) (viewA (laidW l_2 (viewA l_2 z.t) z.t.wr) u.t) u.t.wr
   refine ⟨all_go, ?_⟩
   refine jB (i := 14) ?_
   refine jn rfl rfl rfl rfl (cB hE2) (jO [] Tryz.call31 rfl (Y_iTxLaid z (hI.lim (by omega) (by omega) (by decide)) a_55 c_56 (laidW l_2 (viewA l_2 u.t) u.t.wr) 295505 hB (by omega) (hI.okT hok (by omega)) (Nat.le_trans (growW (by omega) (by omega)) (by decide)) (Nat.le_trans (growTW (by omega) (by omega)) (by decide)) hwr_z) rfl (fun w hw => ⟨hw.see (i := 1) rfl, hw.seeRows 7 rfl, hw.hex hlow hpre.2⟩)) ?_
   rintro _ _ ⟨_, ⟨a_91, c_92, hO_95, rfl, rfl⟩, rfl⟩
   have hll_96 := laidW_len (laidW l_2 (viewA l_2 u.t) u.t.wr) (viewA (laidW l_2 (viewA l_2 u.t) u.t.wr) z.t) z.t.wr
   refine ⟨all_go, ?_⟩
   refine jB (i := 15) ?_
   refine jn rfl rfl rfl rfl (cB hE2) (jO [] Tryz.call18 rfl (C_sameCells a_79 a_91 c_80 c_92 (laidW (laidW l_2 (viewA l_2 z.t) z.t.wr) (viewA (laidW l_2 (viewA l_2 z.t) z.t.wr) u.t) u.t.wr) (laidW (laidW l_2 (viewA l_2 u.t) u.t.wr) (viewA (laidW l_2 (viewA l_2 u.t) u.t.wr) z.t) z.t.wr) (by omega)) rfl (fun w hw => ⟨hw.see (i := 1) rfl, hw.see (i := 0) rfl⟩)) ?_
   rintro _ _ ⟨_, ⟨rfl, rfl⟩, rfl⟩
   refine ⟨all_go, ?_⟩
   refine go ?_
   have h_97 : (laidW (laidW l_2 (viewA l_2 z.t) z.t.wr) (viewA (laidW l_2 (viewA l_2 z.t) z.t.wr) u.t) u.t.wr) = (laidW (laidW l_2 (viewA l_2 u.t) u.t.wr) (viewA (laidW l_2 (viewA l_2 u.t) u.t.wr) z.t) z.t.wr) := hE3
   refine jv 2 (v := .bool true) (cB (dT h_97)) ?_
   exact jJ [] ⟨rfl, rfl⟩
 refine go ?_
 refine jN [] (Y_specClash z.x.a2 z.x.a3 u.x.a2 u.x.a3 z.x.c2 z.x.c3 u.x.c2 u.x.c3 z.t.rd z.t.wr u.t.rd u.t.wr hrd_zS hwr_zS hrd_uS hwr_uS) (hpre := fun w hw => ⟨(seesX (hw.seeRows 4 rfl)).2.2.1, (seesX (hw.seeRows 4 rfl)).2.2.2.1, (seesX (hw.seeRows 2 rfl)).2.2.1, (seesX (hw.seeRows 2 rfl)).2.2.2.1⟩) ?_
 refine go ?_
 refine jv 2 (v := .bool true) (cB (by have h_ := h_48; rw [apart_two hI.s1 hJ.s1] at h_; simpa using h_)) ?_
 exact jJ [] ⟨rfl, rfl⟩
end Go.Proofs.YthlfmbbaomdciaaGreatDoor
