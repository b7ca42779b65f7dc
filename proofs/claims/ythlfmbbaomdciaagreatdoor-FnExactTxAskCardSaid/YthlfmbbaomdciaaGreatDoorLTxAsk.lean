/-
Texts of the walk, joined: what each one proves stands at its theorems.
-/
import Derived.Test.YthlfmbbaomdciaaGreatDoorB3S65TX
import Derived.Test.YthlfmbbaomdciaaGreatDoorXTxAskS82HARN
set_option linter.unusedSimpArgs false
set_option linter.unusedVariables false
set_option linter.unnecessarySimpa false
set_option maxHeartbeats 40000000
set_option maxRecDepth 4000
namespace Go.Proofs.YthlfmbbaomdciaaGreatDoor
open Go Go.RowKit
theorem JC.nz {P : Program} {Q : Exit → Act → World → Prop} {n : Nat} {w0 : World} {D : List Nat} {L : List Res} {c : Code} {e : Env} (l : List (Nat × Value)) (L' : List Res) (h : ∀ e', JC P Q n w0 D L' c (updL l e')) (hl : EL e l := by exact EL.go) (hL : L = L' := by kernel_rfl) : JC P Q n w0 D L c e := by
 obtain ⟨e', rfl⟩ := hl
 subst hL
 exact h e'
def heldN (n : Nat) : Nat := n
theorem heldN_eq (n : Nat) : heldN n = n := rfl
theorem Y_heldK (p : TX) (k : Nat) (h0 : 0 < k) (h1 : k + 7 * (p.t.calls.length + p.t.ans.length + p.t.rd.length + p.t.wr.length + p.t.marks.length) ≤ 10000000000) :
   Ct Tryz.prog 94 [.agg #[.int .i64 p.t.id, .int .i64 p.t.age, .int .i64 p.t.proc, .int .i64 p.t.began, .slice p.x.a0 p.t.calls.length p.x.c0, .slice p.x.a1 p.t.ans.length p.x.c1, .slice p.x.a2 p.t.rd.length p.x.c2, .slice p.x.a3 p.t.wr.length p.x.c3, .slice p.x.a4 p.t.marks.length p.x.c4, .int .i64 p.t.state], .int .i64 ((k : Nat) : Int)] [] (fun w => SeesA w (rdsX (mkY p k))) (fun v A' => v = .int .i64 ((heldN (k + 6 * p.t.calls.length + 3 * p.t.ans.length + p.t.rd.length + p.t.wr.length + 1 * p.t.marks.length) : Nat) : Int) ∧ A' = []) := Y_heldTx p k h0 h1
theorem szTxF_lim {t : TD} {q : Int} (h0 : 0 ≤ q) {n : Nat} (hn : q ≤ n) (h : ¬ szTxF t q < 0) : t.lim n := by
 have := szTxF_all h0 h
 exact ⟨by omega, by omega, by omega, by omega, by omega⟩
theorem ask_few {v : List Cell} {t z : TD} {c : CL} {a : AN} (e : TD.askV v t c = (z, a)) : z.calls.length ≤ t.calls.length + 1 ∧ z.ans.length ≤ t.ans.length + 1 ∧ z.marks.length ≤ t.marks.length := by
 by_cases hs : t.state = 1
 · by_cases h12 : 12 ≤ t.calls.length
   · rw [askV_full hs h12] at e
     cases e
     exact ⟨Nat.le_succ _, Nat.le_succ _, Nat.le_refl _⟩
   · rw [askV_on hs h12] at e
     simp only [Prod.mk.injEq] at e
     obtain ⟨rfl, rfl⟩ := e
     refine ⟨?_, ?_, Nat.le_refl _⟩ <;> simp only [List.length_append, List.length_cons, List.length_nil] <;> exact Nat.le_refl _
 · rw [askV_off hs] at e
   cases e
   exact ⟨Nat.le_succ _, Nat.le_succ _, Nat.le_refl _⟩
attribute [local irreducible] heldN JL JC JQ JO LO PO JA JX Ct

set_option maxRecDepth 4000 in
theorem L_TxAsk (sa : Option Addr) (sc : Nat) (s : List Cell) (hzs : okC s) (p : TX) (hzp : p.t.okz) (hpr : -9223372036854775808 ≤ p.t.proc ∧ p.t.proc ≤ 9223372036854775807) (c : CL) (hcz : c.ok 9223372036854775807) :
   Ct Tryz.prog 12 [.slice sa s.length sc, .agg #[.int .i64 p.t.id, .int .i64 p.t.age, .int .i64 p.t.proc, .int .i64 p.t.began, .slice p.x.a0 p.t.calls.length p.x.c0, .slice p.x.a1 p.t.ans.length p.x.c1, .slice p.x.a2 p.t.rd.length p.x.c2, .slice p.x.a3 p.t.wr.length p.x.c3, .slice p.x.a4 p.t.marks.length p.x.c4, .int .i64 p.t.state], .agg #[.int .i64 c.kind, str c.name, str c.to_, .int .i64 c.a, .int .i64 c.b, str c.text]] [] (fun w => SeesE w (.slice sa s.length sc) 2 s.length (s.flatMap encC) ∧ SeesAE w (rdsX p) ∧ HexOk w) (fun v A' => v = .bool true ∧ A' = []) := by
 refine Ct.introL Tryz.func12 rfl Tryz.ntmps12 (lb rfl) fun w0 hpre hlow => ?_
 have hs_sa : SeesE w0 _ _ _ _ := hpre.1
 have hsl_ := hzs.1
 refine go ?_
 refine jM (xc p) fun b_1 => ?_
 refine jM [iv c.kind, str c.name, str c.to_, iv c.a, iv c.b, str c.text] fun b_2 => ?_
 refine go ?_
 refine jN [] (E_szCellS sa sc s 1048576 (by omega) (by omega) hzs.1 hzs.2) (hpre := fun w hw => hw.seeOutE hs_sa nM) ?_
 have hle_3 := szCellS_le s 1048576 (by omega)
 have hszs := szCellS_le s 1048576 (by omega)
 refine go ?_
 by_cases h_4 : (szCellS s 1048576) < 0
 · refine go ?_
   exact jJ [] ⟨rfl, rfl⟩
 have hO : okC' 1048576 1048576 s := szCellS_okC h_4
 have hO1 := hO.1
 refine go ?_
 refine jN [] (C_szTx p (szCellS s 1048576) (by omega) (by omega) hzp) (hpre := fun w hw => hw.seeOutAE hpre.2.1 nMA) ?_
 have hle_5 := szTxF_le p.t (szCellS s 1048576) (by omega)
 have hszx := szTxF_le p.t (szCellS s 1048576) (by omega)
 refine go ?_
 by_cases h_6 : (szTxF p.t (szCellS s 1048576)) < 0
 · refine go ?_
   exact jJ [] ⟨rfl, rfl⟩
 have hoT := szTxF_okT hzp hpr (by omega) (by omega) h_6
 have hxl : p.t.lim 1048576 := szTxF_lim (n := 1048576) (by omega) (by omega) h_6
 have hx5 : p.t.lim 500000000 := hxl.mono (by decide)
 obtain ⟨hxl0, hxl1, hxl2, hxl3, hxl4⟩ := id hxl
 refine go ?_
 refine jA [] (N_szCall c (szTxF p.t (szCellS s 1048576)) hcz (by omega) (by omega)) ?_
 rintro _ _ ⟨_, rfl, rfl, rfl⟩
 have hszc := szCallF_le c (szTxF p.t (szCellS s 1048576)) (by omega)
 refine go ?_
 by_cases h_7 : (szCallF c (szTxF p.t (szCellS s 1048576))) < 0
 · refine go ?_
   exact jJ [] ⟨rfl, rfl⟩
 have hcc := call_okK hcz h_7 (by omega)
 refine JC.condF (cB (dF h_7)) <| JC.skip <| jT <| jc ?_
 refine JC.cut (fun e_ L_ => ∃ a_8 : Option Addr, ∃ c_9 : Nat, ∃ y_10 : TX, ∃ z_12 : TX, ∃ A_13 : AN, ∃ b_17 : Nat, ∃ b_18 : Nat, (y_10.t = p.t) ∧ (TD.askV (viewL s y_10.t) y_10.t c = (z_12.t, A_13)) ∧ ((0 ≤ A_13.code ∧ A_13.code ≤ 9) ∧ (-1 ≤ A_13.n ∧ A_13.n ≤ 1000000000) ∧ A_13.text.length ≤ 30000000000000) ∧ (z_12.t.rd.length ≤ y_10.t.rd.length + 200000000 ∧ z_12.t.wr.length ≤ y_10.t.wr.length + 200000000) ∧ EL e_ [(0, .slice sa s.length sc), (4, .pointer (some ⟨b_1, 0, none⟩)), (5, .pointer (some ⟨b_2, 0, none⟩)), (6, .bool false), (8, .pointer (some ⟨b_17, 0, none⟩)), (9, .pointer (some ⟨b_18, 0, none⟩))] ∧ L_ = [bk b_18 39 [iv A_13.code, iv A_13.n, str A_13.text], bk b_17 35 (xc z_12), Res.rows (rdsX z_12), Res.rows (rdsX y_10), rC a_8 c_9 s, bk b_2 115 [iv c.kind, str c.name, str c.to_, iv c.a, iv c.b, str c.text], bk b_1 114 (xc p)]) ?_ ?_
 · refine jH [0, 0] 12 ?_
   refine go ?_
   refine kD (i := 1) (j := 10) (k := 11) (by kernel_rfl) ?_ ?_ ?_
   · refine jI [] (E_toCellS sa sc s (by omega)) (hpre := fun w hw => hw.seeOutE hs_sa nM) ?_
     rintro _ _ ⟨a_27, c_28, rfl, rfl⟩
     refine kD (i := 3) (j := 10) (k := 11) (by kernel_rfl) ?_ ?_ ?_
     · refine jI [] (C_toTx p hxl) (hpre := fun w hw => hw.seeOutAE hpre.2.1 nMA) ?_
       rintro _ _ ⟨y_33, hy_34, rfl, rfl⟩
       refine kD (i := 5) (j := 10) (k := 11) (by kernel_rfl) ?_ ?_ ?_
       · refine jI [] (N_toCall c) ?_
         rintro _ _ ⟨rfl, rfl⟩
         refine kD (i := 6) (j := 10) (k := 11) (by kernel_rfl) ?_ ?_ ?_
         · refine jI [] (Y_sTxAsk y_33 (by rw [hy_34]; exact hxl.mono (show 1048576 ≤ 500000000 by decide)) a_27 c_28 s 1048576 hO (by omega) (by rw [hy_34]; exact hoT) (fun h_ => growX h_) (fun h_ => growTX h_) 200000000 (fun h_ => growBX h_) c hcc) (hpre := fun w hw => ⟨hw.see (i := 1) rfl, hw.seeRows 0 rfl⟩) ?_
           rintro _ _ ⟨z_44, A_45, e_46, ha_47, hb_48, rfl, rfl⟩
           refine go ?_
           refine jZ (i := 10) (j := 11) (by kernel_rfl) ?_ ?_
           · refine JX.al xzc fun b_51 => ?_
             refine jB (i := 11) ?_
             refine JX.al [iv 0, iv 0, str []] fun b_53 => ?_
             refine jB (i := 12) ?_
             refine jf 1 (xc z_44) ?_
             refine jB (i := 13) ?_
             refine jS 0 [iv A_45.code, iv A_45.n, str A_45.text] ?_
             exact jh [0, 0, 0, 0, 0, 0, 0] ⟨a_27, c_28, y_33, z_44, A_45, b_51, b_53, hy_34, e_46, ha_47, hb_48, EL.go, rfl⟩
           refine JX.al [iv 0, iv 0, str []] fun b_54 => ?_
           refine jB (i := 10) ?_
           refine JX.al xzc fun b_56 => ?_
           refine jB (i := 12) ?_
           refine jf 0 (xc z_44) ?_
           refine jB (i := 13) ?_
           refine jS 1 [iv A_45.code, iv A_45.n, str A_45.text] ?_
           exact jh [1, 0, 0, 0, 0, 0, 0] ⟨a_27, c_28, y_33, z_44, A_45, b_56, b_54, hy_34, e_46, ha_47, hb_48, EL.go, rfl⟩
         · refine JX.al xzc fun b_57 => ?_
           refine jZ (i := 6) (j := 11) (by kernel_rfl) ?_ ?_
           · refine jI [] (Y_sTxAsk y_33 (by rw [hy_34]; exact hxl.mono (show 1048576 ≤ 500000000 by decide)) a_27 c_28 s 1048576 hO (by omega) (by rw [hy_34]; exact hoT) (fun h_ => growX h_) (fun h_ => growTX h_) 200000000 (fun h_ => growBX h_) c hcc) (hpre := fun w hw => ⟨hw.see (i := 2) rfl, hw.seeRows 1 rfl⟩) ?_
             rintro _ _ ⟨z_64, A_65, e_66, ha_67, hb_68, rfl, rfl⟩
             refine go ?_
             refine jB (i := 11) ?_
             refine JX.al [iv 0, iv 0, str []] fun b_70 => ?_
             refine jB (i := 12) ?_
             refine jf 2 (xc z_64) ?_
             refine jB (i := 13) ?_
             refine jS 0 [iv A_65.code, iv A_65.n, str A_65.text] ?_
             exact jh [0, 1, 0, 0, 0, 0, 0] ⟨a_27, c_28, y_33, z_64, A_65, b_57, b_70, hy_34, e_66, ha_67, hb_68, EL.go, rfl⟩
           refine JX.al [iv 0, iv 0, str []] fun b_71 => ?_
           refine jB (i := 6) ?_
           refine jI [] (Y_sTxAsk y_33 (by rw [hy_34]; exact hxl.mono (show 1048576 ≤ 500000000 by decide)) a_27 c_28 s 1048576 hO (by omega) (by rw [hy_34]; exact hoT) (fun h_ => growX h_) (fun h_ => growTX h_) 200000000 (fun h_ => growBX h_) c hcc) (hpre := fun w hw => ⟨hw.see (i := 3) rfl, hw.seeRows 2 rfl⟩) ?_
           rintro _ _ ⟨z_77, A_78, e_79, ha_80, hb_81, rfl, rfl⟩
           refine go ?_
           refine jB (i := 12) ?_
           refine jf 2 (xc z_77) ?_
           refine jB (i := 13) ?_
           refine jS 1 [iv A_78.code, iv A_78.n, str A_78.text] ?_
           exact jh [1, 1, 0, 0, 0, 0, 0] ⟨a_27, c_28, y_33, z_77, A_78, b_57, b_71, hy_34, e_79, ha_80, hb_81, EL.go, rfl⟩
         refine JX.al [iv 0, iv 0, str []] fun b_82 => ?_
         refine jZ (i := 6) (j := 10) (by kernel_rfl) ?_ ?_
         · refine jI [] (Y_sTxAsk y_33 (by rw [hy_34]; exact hxl.mono (show 1048576 ≤ 500000000 by decide)) a_27 c_28 s 1048576 hO (by omega) (by rw [hy_34]; exact hoT) (fun h_ => growX h_) (fun h_ => growTX h_) 200000000 (fun h_ => growBX h_) c hcc) (hpre := fun w hw => ⟨hw.see (i := 2) rfl, hw.seeRows 1 rfl⟩) ?_
           rintro _ _ ⟨z_89, A_90, e_91, ha_92, hb_93, rfl, rfl⟩
           refine go ?_
           refine jB (i := 10) ?_
           refine JX.al xzc fun b_95 => ?_
           refine jB (i := 12) ?_
           refine jf 0 (xc z_89) ?_
           refine jB (i := 13) ?_
           refine jS 2 [iv A_90.code, iv A_90.n, str A_90.text] ?_
           exact jh [2, 0, 0, 0, 0, 0, 0] ⟨a_27, c_28, y_33, z_89, A_90, b_95, b_82, hy_34, e_91, ha_92, hb_93, EL.go, rfl⟩
         refine JX.al xzc fun b_96 => ?_
         refine jB (i := 6) ?_
         refine jI [] (Y_sTxAsk y_33 (by rw [hy_34]; exact hxl.mono (show 1048576 ≤ 500000000 by decide)) a_27 c_28 s 1048576 hO (by omega) (by rw [hy_34]; exact hoT) (fun h_ => growX h_) (fun h_ => growTX h_) 200000000 (fun h_ => growBX h_) c hcc) (hpre := fun w hw => ⟨hw.see (i := 3) rfl, hw.seeRows 2 rfl⟩) ?_
         rintro _ _ ⟨z_102, A_103, e_104, ha_105, hb_106, rfl, rfl⟩
         refine go ?_
         refine jB (i := 12) ?_
         refine jf 1 (xc z_102) ?_
         refine jB (i := 13) ?_
         refine jS 2 [iv A_103.code, iv A_103.n, str A_103.text] ?_
         exact jh [2, 1, 0, 0, 0, 0, 0] ⟨a_27, c_28, y_33, z_102, A_103, b_96, b_82, hy_34, e_104, ha_105, hb_106, EL.go, rfl⟩
       · refine JX.al xzc fun b_107 => ?_
         refine jZ (i := 5) (j := 11) (by kernel_rfl) ?_ ?_
         · refine jI [] (N_toCall c) ?_
           rintro _ _ ⟨rfl, rfl⟩
           refine jZ (i := 6) (j := 11) (by kernel_rfl) ?_ ?_
           · refine jI [] (Y_sTxAsk y_33 (by rw [hy_34]; exact hxl.mono (show 1048576 ≤ 500000000 by decide)) a_27 c_28 s 1048576 hO (by omega) (by rw [hy_34]; exact hoT) (fun h_ => growX h_) (fun h_ => growTX h_) 200000000 (fun h_ => growBX h_) c hcc) (hpre := fun w hw => ⟨hw.see (i := 2) rfl, hw.seeRows 1 rfl⟩) ?_
             rintro _ _ ⟨z_115, A_116, e_117, ha_118, hb_119, rfl, rfl⟩
             refine go ?_
             refine jB (i := 11) ?_
             refine JX.al [iv 0, iv 0, str []] fun b_121 => ?_
             refine jB (i := 12) ?_
             refine jf 2 (xc z_115) ?_
             refine jB (i := 13) ?_
             refine jS 0 [iv A_116.code, iv A_116.n, str A_116.text] ?_
             exact jh [0, 1, 0, 0, 0, 0, 0] ⟨a_27, c_28, y_33, z_115, A_116, b_107, b_121, hy_34, e_117, ha_118, hb_119, EL.go, rfl⟩
           refine JX.al [iv 0, iv 0, str []] fun b_122 => ?_
           refine jB (i := 6) ?_
           refine jI [] (Y_sTxAsk y_33 (by rw [hy_34]; exact hxl.mono (show 1048576 ≤ 500000000 by decide)) a_27 c_28 s 1048576 hO (by omega) (by rw [hy_34]; exact hoT) (fun h_ => growX h_) (fun h_ => growTX h_) 200000000 (fun h_ => growBX h_) c hcc) (hpre := fun w hw => ⟨hw.see (i := 3) rfl, hw.seeRows 2 rfl⟩) ?_
           rintro _ _ ⟨z_128, A_129, e_130, ha_131, hb_132, rfl, rfl⟩
           refine go ?_
           refine jB (i := 12) ?_
           refine jf 2 (xc z_128) ?_
           refine jB (i := 13) ?_
           refine jS 1 [iv A_129.code, iv A_129.n, str A_129.text] ?_
           exact jh [1, 1, 0, 0, 0, 0, 0] ⟨a_27, c_28, y_33, z_128, A_129, b_107, b_122, hy_34, e_130, ha_131, hb_132, EL.go, rfl⟩
         refine JX.al [iv 0, iv 0, str []] fun b_133 => ?_
         refine jB (i := 5) ?_
         refine jI [] (N_toCall c) ?_
         rintro _ _ ⟨rfl, rfl⟩
         refine jB (i := 6) ?_
         refine jI [] (Y_sTxAsk y_33 (by rw [hy_34]; exact hxl.mono (show 1048576 ≤ 500000000 by decide)) a_27 c_28 s 1048576 hO (by omega) (by rw [hy_34]; exact hoT) (fun h_ => growX h_) (fun h_ => growTX h_) 200000000 (fun h_ => growBX h_) c hcc) (hpre := fun w hw => ⟨hw.see (i := 3) rfl, hw.seeRows 2 rfl⟩) ?_
         rintro _ _ ⟨z_139, A_140, e_141, ha_142, hb_143, rfl, rfl⟩
         refine go ?_
         refine jB (i := 12) ?_
         refine jf 2 (xc z_139) ?_
         refine jB (i := 13) ?_
         refine jS 1 [iv A_140.code, iv A_140.n, str A_140.text] ?_
         exact jh [1, 1, 0, 0, 0, 0, 0] ⟨a_27, c_28, y_33, z_139, A_140, b_107, b_133, hy_34, e_141, ha_142, hb_143, EL.go, rfl⟩
       refine JX.al [iv 0, iv 0, str []] fun b_144 => ?_
       refine jZ (i := 5) (j := 10) (by kernel_rfl) ?_ ?_
       · refine jI [] (N_toCall c) ?_
         rintro _ _ ⟨rfl, rfl⟩
         refine jZ (i := 6) (j := 10) (by kernel_rfl) ?_ ?_
         · refine jI [] (Y_sTxAsk y_33 (by rw [hy_34]; exact hxl.mono (show 1048576 ≤ 500000000 by decide)) a_27 c_28 s 1048576 hO (by omega) (by rw [hy_34]; exact hoT) (fun h_ => growX h_) (fun h_ => growTX h_) 200000000 (fun h_ => growBX h_) c hcc) (hpre := fun w hw => ⟨hw.see (i := 2) rfl, hw.seeRows 1 rfl⟩) ?_
           rintro _ _ ⟨z_152, A_153, e_154, ha_155, hb_156, rfl, rfl⟩
           refine go ?_
           refine jB (i := 10) ?_
           refine JX.al xzc fun b_158 => ?_
           refine jB (i := 12) ?_
           refine jf 0 (xc z_152) ?_
           refine jB (i := 13) ?_
           refine jS 2 [iv A_153.code, iv A_153.n, str A_153.text] ?_
           exact jh [2, 0, 0, 0, 0, 0, 0] ⟨a_27, c_28, y_33, z_152, A_153, b_158, b_144, hy_34, e_154, ha_155, hb_156, EL.go, rfl⟩
         refine JX.al xzc fun b_159 => ?_
         refine jB (i := 6) ?_
         refine jI [] (Y_sTxAsk y_33 (by rw [hy_34]; exact hxl.mono (show 1048576 ≤ 500000000 by decide)) a_27 c_28 s 1048576 hO (by omega) (by rw [hy_34]; exact hoT) (fun h_ => growX h_) (fun h_ => growTX h_) 200000000 (fun h_ => growBX h_) c hcc) (hpre := fun w hw => ⟨hw.see (i := 3) rfl, hw.seeRows 2 rfl⟩) ?_
         rintro _ _ ⟨z_165, A_166, e_167, ha_168, hb_169, rfl, rfl⟩
         refine go ?_
         refine jB (i := 12) ?_
         refine jf 1 (xc z_165) ?_
         refine jB (i := 13) ?_
         refine jS 2 [iv A_166.code, iv A_166.n, str A_166.text] ?_
         exact jh [2, 1, 0, 0, 0, 0, 0] ⟨a_27, c_28, y_33, z_165, A_166, b_159, b_144, hy_34, e_167, ha_168, hb_169, EL.go, rfl⟩
       refine JX.al xzc fun b_170 => ?_
       refine jB (i := 5) ?_
       refine jI [] (N_toCall c) ?_
       rintro _ _ ⟨rfl, rfl⟩
       refine jB (i := 6) ?_
       refine jI [] (Y_sTxAsk y_33 (by rw [hy_34]; exact hxl.mono (show 1048576 ≤ 500000000 by decide)) a_27 c_28 s 1048576 hO (by omega) (by rw [hy_34]; exact hoT) (fun h_ => growX h_) (fun h_ => growTX h_) 200000000 (fun h_ => growBX h_) c hcc) (hpre := fun w hw => ⟨hw.see (i := 3) rfl, hw.seeRows 2 rfl⟩) ?_
       rintro _ _ ⟨z_176, A_177, e_178, ha_179, hb_180, rfl, rfl⟩
       refine go ?_
       refine jB (i := 12) ?_
       refine jf 1 (xc z_176) ?_
       refine jB (i := 13) ?_
       refine jS 2 [iv A_177.code, iv A_177.n, str A_177.text] ?_
       exact jh [2, 1, 0, 0, 0, 0, 0] ⟨a_27, c_28, y_33, z_176, A_177, b_170, b_144, hy_34, e_178, ha_179, hb_180, EL.go, rfl⟩
     · refine JX.al xzc fun b_181 => ?_
       refine jZ (i := 3) (j := 11) (by kernel_rfl) ?_ ?_
       · refine jI [] (C_toTx p hxl) (hpre := fun w hw => hw.seeOutAE hpre.2.1 nMA) ?_
         rintro _ _ ⟨y_185, hy_186, rfl, rfl⟩
         refine jZ (i := 5) (j := 11) (by kernel_rfl) ?_ ?_
         · refine jI [] (N_toCall c) ?_
           rintro _ _ ⟨rfl, rfl⟩
           refine jZ (i := 6) (j := 11) (by kernel_rfl) ?_ ?_
           · refine jI [] (Y_sTxAsk y_185 (by rw [hy_186]; exact hxl.mono (show 1048576 ≤ 500000000 by decide)) a_27 c_28 s 1048576 hO (by omega) (by rw [hy_186]; exact hoT) (fun h_ => growX h_) (fun h_ => growTX h_) 200000000 (fun h_ => growBX h_) c hcc) (hpre := fun w hw => ⟨hw.see (i := 2) rfl, hw.seeRows 0 rfl⟩) ?_
             rintro _ _ ⟨z_194, A_195, e_196, ha_197, hb_198, rfl, rfl⟩
             refine go ?_
             refine jB (i := 11) ?_
             refine JX.al [iv 0, iv 0, str []] fun b_200 => ?_
             refine jB (i := 12) ?_
             refine jf 3 (xc z_194) ?_
             refine jB (i := 13) ?_
             refine jS 0 [iv A_195.code, iv A_195.n, str A_195.text] ?_
             exact jh [0, 2, 0, 0, 0, 0, 0] ⟨a_27, c_28, y_185, z_194, A_195, b_181, b_200, hy_186, e_196, ha_197, hb_198, EL.go, rfl⟩
           refine JX.al [iv 0, iv 0, str []] fun b_201 => ?_
           refine jB (i := 6) ?_
           refine jI [] (Y_sTxAsk y_185 (by rw [hy_186]; exact hxl.mono (show 1048576 ≤ 500000000 by decide)) a_27 c_28 s 1048576 hO (by omega) (by rw [hy_186]; exact hoT) (fun h_ => growX h_) (fun h_ => growTX h_) 200000000 (fun h_ => growBX h_) c hcc) (hpre := fun w hw => ⟨hw.see (i := 3) rfl, hw.seeRows 1 rfl⟩) ?_
           rintro _ _ ⟨z_207, A_208, e_209, ha_210, hb_211, rfl, rfl⟩
           refine go ?_
           refine jB (i := 12) ?_
           refine jf 3 (xc z_207) ?_
           refine jB (i := 13) ?_
           refine jS 1 [iv A_208.code, iv A_208.n, str A_208.text] ?_
           exact jh [1, 2, 0, 0, 0, 0, 0] ⟨a_27, c_28, y_185, z_207, A_208, b_181, b_201, hy_186, e_209, ha_210, hb_211, EL.go, rfl⟩
         refine JX.al [iv 0, iv 0, str []] fun b_212 => ?_
         refine jB (i := 5) ?_
         refine jI [] (N_toCall c) ?_
         rintro _ _ ⟨rfl, rfl⟩
         refine jB (i := 6) ?_
         refine jI [] (Y_sTxAsk y_185 (by rw [hy_186]; exact hxl.mono (show 1048576 ≤ 500000000 by decide)) a_27 c_28 s 1048576 hO (by omega) (by rw [hy_186]; exact hoT) (fun h_ => growX h_) (fun h_ => growTX h_) 200000000 (fun h_ => growBX h_) c hcc) (hpre := fun w hw => ⟨hw.see (i := 3) rfl, hw.seeRows 1 rfl⟩) ?_
         rintro _ _ ⟨z_218, A_219, e_220, ha_221, hb_222, rfl, rfl⟩
         refine go ?_
         refine jB (i := 12) ?_
         refine jf 3 (xc z_218) ?_
         refine jB (i := 13) ?_
         refine jS 1 [iv A_219.code, iv A_219.n, str A_219.text] ?_
         exact jh [1, 2, 0, 0, 0, 0, 0] ⟨a_27, c_28, y_185, z_218, A_219, b_181, b_212, hy_186, e_220, ha_221, hb_222, EL.go, rfl⟩
       refine JX.al [iv 0, iv 0, str []] fun b_223 => ?_
       refine jB (i := 3) ?_
       refine jI [] (C_toTx p hxl) (hpre := fun w hw => hw.seeOutAE hpre.2.1 nMA) ?_
       rintro _ _ ⟨y_226, hy_227, rfl, rfl⟩
       refine jB (i := 5) ?_
       refine jI [] (N_toCall c) ?_
       rintro _ _ ⟨rfl, rfl⟩
       refine jB (i := 6) ?_
       refine jI [] (Y_sTxAsk y_226 (by rw [hy_227]; exact hxl.mono (show 1048576 ≤ 500000000 by decide)) a_27 c_28 s 1048576 hO (by omega) (by rw [hy_227]; exact hoT) (fun h_ => growX h_) (fun h_ => growTX h_) 200000000 (fun h_ => growBX h_) c hcc) (hpre := fun w hw => ⟨hw.see (i := 3) rfl, hw.seeRows 0 rfl⟩) ?_
       rintro _ _ ⟨z_233, A_234, e_235, ha_236, hb_237, rfl, rfl⟩
       refine go ?_
       refine jB (i := 12) ?_
       refine jf 3 (xc z_233) ?_
       refine jB (i := 13) ?_
       refine jS 2 [iv A_234.code, iv A_234.n, str A_234.text] ?_
       exact jh [2, 2, 0, 0, 0, 0, 0] ⟨a_27, c_28, y_226, z_233, A_234, b_181, b_223, hy_227, e_235, ha_236, hb_237, EL.go, rfl⟩
     refine JX.al [iv 0, iv 0, str []] fun b_238 => ?_
     refine jZ (i := 3) (j := 10) (by kernel_rfl) ?_ ?_
     · refine jI [] (C_toTx p hxl) (hpre := fun w hw => hw.seeOutAE hpre.2.1 nMA) ?_
       rintro _ _ ⟨y_242, hy_243, rfl, rfl⟩
       refine jZ (i := 5) (j := 10) (by kernel_rfl) ?_ ?_
       · refine jI [] (N_toCall c) ?_
         rintro _ _ ⟨rfl, rfl⟩
         refine jZ (i := 6) (j := 10) (by kernel_rfl) ?_ ?_
         · refine jI [] (Y_sTxAsk y_242 (by rw [hy_243]; exact hxl.mono (show 1048576 ≤ 500000000 by decide)) a_27 c_28 s 1048576 hO (by omega) (by rw [hy_243]; exact hoT) (fun h_ => growX h_) (fun h_ => growTX h_) 200000000 (fun h_ => growBX h_) c hcc) (hpre := fun w hw => ⟨hw.see (i := 2) rfl, hw.seeRows 0 rfl⟩) ?_
           rintro _ _ ⟨z_251, A_252, e_253, ha_254, hb_255, rfl, rfl⟩
           refine go ?_
           refine jB (i := 10) ?_
           refine JX.al xzc fun b_257 => ?_
           refine jB (i := 12) ?_
           refine jf 0 (xc z_251) ?_
           refine jB (i := 13) ?_
           refine jS 3 [iv A_252.code, iv A_252.n, str A_252.text] ?_
           exact jh [3, 0, 0, 0, 0, 0, 0] ⟨a_27, c_28, y_242, z_251, A_252, b_257, b_238, hy_243, e_253, ha_254, hb_255, EL.go, rfl⟩
         refine JX.al xzc fun b_258 => ?_
         refine jB (i := 6) ?_
         refine jI [] (Y_sTxAsk y_242 (by rw [hy_243]; exact hxl.mono (show 1048576 ≤ 500000000 by decide)) a_27 c_28 s 1048576 hO (by omega) (by rw [hy_243]; exact hoT) (fun h_ => growX h_) (fun h_ => growTX h_) 200000000 (fun h_ => growBX h_) c hcc) (hpre := fun w hw => ⟨hw.see (i := 3) rfl, hw.seeRows 1 rfl⟩) ?_
         rintro _ _ ⟨z_264, A_265, e_266, ha_267, hb_268, rfl, rfl⟩
         refine go ?_
         refine jB (i := 12) ?_
         refine jf 1 (xc z_264) ?_
         refine jB (i := 13) ?_
         refine jS 3 [iv A_265.code, iv A_265.n, str A_265.text] ?_
         exact jh [3, 1, 0, 0, 0, 0, 0] ⟨a_27, c_28, y_242, z_264, A_265, b_258, b_238, hy_243, e_266, ha_267, hb_268, EL.go, rfl⟩
       refine JX.al xzc fun b_269 => ?_
       refine jB (i := 5) ?_
       refine jI [] (N_toCall c) ?_
       rintro _ _ ⟨rfl, rfl⟩
       refine jB (i := 6) ?_
       refine jI [] (Y_sTxAsk y_242 (by rw [hy_243]; exact hxl.mono (show 1048576 ≤ 500000000 by decide)) a_27 c_28 s 1048576 hO (by omega) (by rw [hy_243]; exact hoT) (fun h_ => growX h_) (fun h_ => growTX h_) 200000000 (fun h_ => growBX h_) c hcc) (hpre := fun w hw => ⟨hw.see (i := 3) rfl, hw.seeRows 1 rfl⟩) ?_
       rintro _ _ ⟨z_275, A_276, e_277, ha_278, hb_279, rfl, rfl⟩
       refine go ?_
       refine jB (i := 12) ?_
       refine jf 1 (xc z_275) ?_
       refine jB (i := 13) ?_
       refine jS 3 [iv A_276.code, iv A_276.n, str A_276.text] ?_
       exact jh [3, 1, 0, 0, 0, 0, 0] ⟨a_27, c_28, y_242, z_275, A_276, b_269, b_238, hy_243, e_277, ha_278, hb_279, EL.go, rfl⟩
     refine JX.al xzc fun b_280 => ?_
     refine jB (i := 3) ?_
     refine jI [] (C_toTx p hxl) (hpre := fun w hw => hw.seeOutAE hpre.2.1 nMA) ?_
     rintro _ _ ⟨y_283, hy_284, rfl, rfl⟩
     refine jB (i := 5) ?_
     refine jI [] (N_toCall c) ?_
     rintro _ _ ⟨rfl, rfl⟩
     refine jB (i := 6) ?_
     refine jI [] (Y_sTxAsk y_283 (by rw [hy_284]; exact hxl.mono (show 1048576 ≤ 500000000 by decide)) a_27 c_28 s 1048576 hO (by omega) (by rw [hy_284]; exact hoT) (fun h_ => growX h_) (fun h_ => growTX h_) 200000000 (fun h_ => growBX h_) c hcc) (hpre := fun w hw => ⟨hw.see (i := 3) rfl, hw.seeRows 0 rfl⟩) ?_
     rintro _ _ ⟨z_290, A_291, e_292, ha_293, hb_294, rfl, rfl⟩
     refine go ?_
     refine jB (i := 12) ?_
     refine jf 2 (xc z_290) ?_
     refine jB (i := 13) ?_
     refine jS 3 [iv A_291.code, iv A_291.n, str A_291.text] ?_
     exact jh [3, 2, 0, 0, 0, 0, 0] ⟨a_27, c_28, y_283, z_290, A_291, b_280, b_238, hy_284, e_292, ha_293, hb_294, EL.go, rfl⟩
   · refine JX.al xzc fun b_295 => ?_
     refine jZ (i := 1) (j := 11) (by kernel_rfl) ?_ ?_
     · refine jI [] (E_toCellS sa sc s (by omega)) (hpre := fun w hw => hw.seeOutE hs_sa nM) ?_
       rintro _ _ ⟨a_299, c_300, rfl, rfl⟩
       refine jZ (i := 3) (j := 11) (by kernel_rfl) ?_ ?_
       · refine jI [] (C_toTx p hxl) (hpre := fun w hw => hw.seeOutAE hpre.2.1 nMA) ?_
         rintro _ _ ⟨y_304, hy_305, rfl, rfl⟩
         refine jZ (i := 5) (j := 11) (by kernel_rfl) ?_ ?_
         · refine jI [] (N_toCall c) ?_
           rintro _ _ ⟨rfl, rfl⟩
           refine jZ (i := 6) (j := 11) (by kernel_rfl) ?_ ?_
           · refine jI [] (Y_sTxAsk y_304 (by rw [hy_305]; exact hxl.mono (show 1048576 ≤ 500000000 by decide)) a_299 c_300 s 1048576 hO (by omega) (by rw [hy_305]; exact hoT) (fun h_ => growX h_) (fun h_ => growTX h_) 200000000 (fun h_ => growBX h_) c hcc) (hpre := fun w hw => ⟨hw.see (i := 1) rfl, hw.seeRows 0 rfl⟩) ?_
             rintro _ _ ⟨z_313, A_314, e_315, ha_316, hb_317, rfl, rfl⟩
             refine go ?_
             refine jB (i := 11) ?_
             refine JX.al [iv 0, iv 0, str []] fun b_319 => ?_
             refine jB (i := 12) ?_
             refine jf 4 (xc z_313) ?_
             refine jB (i := 13) ?_
             refine jS 0 [iv A_314.code, iv A_314.n, str A_314.text] ?_
             exact jh [0, 3, 0, 0, 0, 0, 0] ⟨a_299, c_300, y_304, z_313, A_314, b_295, b_319, hy_305, e_315, ha_316, hb_317, EL.go, rfl⟩
           refine JX.al [iv 0, iv 0, str []] fun b_320 => ?_
           refine jB (i := 6) ?_
           refine jI [] (Y_sTxAsk y_304 (by rw [hy_305]; exact hxl.mono (show 1048576 ≤ 500000000 by decide)) a_299 c_300 s 1048576 hO (by omega) (by rw [hy_305]; exact hoT) (fun h_ => growX h_) (fun h_ => growTX h_) 200000000 (fun h_ => growBX h_) c hcc) (hpre := fun w hw => ⟨hw.see (i := 2) rfl, hw.seeRows 1 rfl⟩) ?_
           rintro _ _ ⟨z_326, A_327, e_328, ha_329, hb_330, rfl, rfl⟩
           refine go ?_
           refine jB (i := 12) ?_
           refine jf 4 (xc z_326) ?_
           refine jB (i := 13) ?_
           refine jS 1 [iv A_327.code, iv A_327.n, str A_327.text] ?_
           exact jh [1, 3, 0, 0, 0, 0, 0] ⟨a_299, c_300, y_304, z_326, A_327, b_295, b_320, hy_305, e_328, ha_329, hb_330, EL.go, rfl⟩
         refine JX.al [iv 0, iv 0, str []] fun b_331 => ?_
         refine jB (i := 5) ?_
         refine jI [] (N_toCall c) ?_
         rintro _ _ ⟨rfl, rfl⟩
         refine jB (i := 6) ?_
         refine jI [] (Y_sTxAsk y_304 (by rw [hy_305]; exact hxl.mono (show 1048576 ≤ 500000000 by decide)) a_299 c_300 s 1048576 hO (by omega) (by rw [hy_305]; exact hoT) (fun h_ => growX h_) (fun h_ => growTX h_) 200000000 (fun h_ => growBX h_) c hcc) (hpre := fun w hw => ⟨hw.see (i := 2) rfl, hw.seeRows 1 rfl⟩) ?_
         rintro _ _ ⟨z_337, A_338, e_339, ha_340, hb_341, rfl, rfl⟩
         refine go ?_
         refine jB (i := 12) ?_
         refine jf 4 (xc z_337) ?_
         refine jB (i := 13) ?_
         refine jS 1 [iv A_338.code, iv A_338.n, str A_338.text] ?_
         exact jh [1, 3, 0, 0, 0, 0, 0] ⟨a_299, c_300, y_304, z_337, A_338, b_295, b_331, hy_305, e_339, ha_340, hb_341, EL.go, rfl⟩
       refine JX.al [iv 0, iv 0, str []] fun b_342 => ?_
       refine jB (i := 3) ?_
       refine jI [] (C_toTx p hxl) (hpre := fun w hw => hw.seeOutAE hpre.2.1 nMA) ?_
       rintro _ _ ⟨y_345, hy_346, rfl, rfl⟩
       refine jB (i := 5) ?_
       refine jI [] (N_toCall c) ?_
       rintro _ _ ⟨rfl, rfl⟩
       refine jB (i := 6) ?_
       refine jI [] (Y_sTxAsk y_345 (by rw [hy_346]; exact hxl.mono (show 1048576 ≤ 500000000 by decide)) a_299 c_300 s 1048576 hO (by omega) (by rw [hy_346]; exact hoT) (fun h_ => growX h_) (fun h_ => growTX h_) 200000000 (fun h_ => growBX h_) c hcc) (hpre := fun w hw => ⟨hw.see (i := 2) rfl, hw.seeRows 0 rfl⟩) ?_
       rintro _ _ ⟨z_352, A_353, e_354, ha_355, hb_356, rfl, rfl⟩
       refine go ?_
       refine jB (i := 12) ?_
       refine jf 4 (xc z_352) ?_
       refine jB (i := 13) ?_
       refine jS 2 [iv A_353.code, iv A_353.n, str A_353.text] ?_
       exact jh [2, 3, 0, 0, 0, 0, 0] ⟨a_299, c_300, y_345, z_352, A_353, b_295, b_342, hy_346, e_354, ha_355, hb_356, EL.go, rfl⟩
     refine JX.al [iv 0, iv 0, str []] fun b_357 => ?_
     refine jB (i := 1) ?_
     refine jI [] (E_toCellS sa sc s (by omega)) (hpre := fun w hw => hw.seeOutE hs_sa nM) ?_
     rintro _ _ ⟨a_360, c_361, rfl, rfl⟩
     refine jB (i := 3) ?_
     refine jI [] (C_toTx p hxl) (hpre := fun w hw => hw.seeOutAE hpre.2.1 nMA) ?_
     rintro _ _ ⟨y_364, hy_365, rfl, rfl⟩
     refine jB (i := 5) ?_
     refine jI [] (N_toCall c) ?_
     rintro _ _ ⟨rfl, rfl⟩
     refine jB (i := 6) ?_
     refine jI [] (Y_sTxAsk y_364 (by rw [hy_365]; exact hxl.mono (show 1048576 ≤ 500000000 by decide)) a_360 c_361 s 1048576 hO (by omega) (by rw [hy_365]; exact hoT) (fun h_ => growX h_) (fun h_ => growTX h_) 200000000 (fun h_ => growBX h_) c hcc) (hpre := fun w hw => ⟨hw.see (i := 1) rfl, hw.seeRows 0 rfl⟩) ?_
     rintro _ _ ⟨z_371, A_372, e_373, ha_374, hb_375, rfl, rfl⟩
     refine go ?_
     refine jB (i := 12) ?_
     refine jf 4 (xc z_371) ?_
     refine jB (i := 13) ?_
     refine jS 3 [iv A_372.code, iv A_372.n, str A_372.text] ?_
     exact jh [3, 3, 0, 0, 0, 0, 0] ⟨a_360, c_361, y_364, z_371, A_372, b_295, b_357, hy_365, e_373, ha_374, hb_375, EL.go, rfl⟩
   refine JX.al [iv 0, iv 0, str []] fun b_376 => ?_
   refine jZ (i := 1) (j := 10) (by kernel_rfl) ?_ ?_
   · refine jI [] (E_toCellS sa sc s (by omega)) (hpre := fun w hw => hw.seeOutE hs_sa nM) ?_
     rintro _ _ ⟨a_380, c_381, rfl, rfl⟩
     refine jZ (i := 3) (j := 10) (by kernel_rfl) ?_ ?_
     · refine jI [] (C_toTx p hxl) (hpre := fun w hw => hw.seeOutAE hpre.2.1 nMA) ?_
       rintro _ _ ⟨y_385, hy_386, rfl, rfl⟩
       refine jZ (i := 5) (j := 10) (by kernel_rfl) ?_ ?_
       · refine jI [] (N_toCall c) ?_
         rintro _ _ ⟨rfl, rfl⟩
         refine jZ (i := 6) (j := 10) (by kernel_rfl) ?_ ?_
         · refine jI [] (Y_sTxAsk y_385 (by rw [hy_386]; exact hxl.mono (show 1048576 ≤ 500000000 by decide)) a_380 c_381 s 1048576 hO (by omega) (by rw [hy_386]; exact hoT) (fun h_ => growX h_) (fun h_ => growTX h_) 200000000 (fun h_ => growBX h_) c hcc) (hpre := fun w hw => ⟨hw.see (i := 1) rfl, hw.seeRows 0 rfl⟩) ?_
           rintro _ _ ⟨z_394, A_395, e_396, ha_397, hb_398, rfl, rfl⟩
           refine go ?_
           refine jB (i := 10) ?_
           refine JX.al xzc fun b_400 => ?_
           refine jB (i := 12) ?_
           refine jf 0 (xc z_394) ?_
           refine jB (i := 13) ?_
           refine jS 4 [iv A_395.code, iv A_395.n, str A_395.text] ?_
           exact jh [4, 0, 0, 0, 0, 0, 0] ⟨a_380, c_381, y_385, z_394, A_395, b_400, b_376, hy_386, e_396, ha_397, hb_398, EL.go, rfl⟩
         refine JX.al xzc fun b_401 => ?_
         refine jB (i := 6) ?_
         refine jI [] (Y_sTxAsk y_385 (by rw [hy_386]; exact hxl.mono (show 1048576 ≤ 500000000 by decide)) a_380 c_381 s 1048576 hO (by omega) (by rw [hy_386]; exact hoT) (fun h_ => growX h_) (fun h_ => growTX h_) 200000000 (fun h_ => growBX h_) c hcc) (hpre := fun w hw => ⟨hw.see (i := 2) rfl, hw.seeRows 1 rfl⟩) ?_
         rintro _ _ ⟨z_407, A_408, e_409, ha_410, hb_411, rfl, rfl⟩
         refine go ?_
         refine jB (i := 12) ?_
         refine jf 1 (xc z_407) ?_
         refine jB (i := 13) ?_
         refine jS 4 [iv A_408.code, iv A_408.n, str A_408.text] ?_
         exact jh [4, 1, 0, 0, 0, 0, 0] ⟨a_380, c_381, y_385, z_407, A_408, b_401, b_376, hy_386, e_409, ha_410, hb_411, EL.go, rfl⟩
       refine JX.al xzc fun b_412 => ?_
       refine jB (i := 5) ?_
       refine jI [] (N_toCall c) ?_
       rintro _ _ ⟨rfl, rfl⟩
       refine jB (i := 6) ?_
       refine jI [] (Y_sTxAsk y_385 (by rw [hy_386]; exact hxl.mono (show 1048576 ≤ 500000000 by decide)) a_380 c_381 s 1048576 hO (by omega) (by rw [hy_386]; exact hoT) (fun h_ => growX h_) (fun h_ => growTX h_) 200000000 (fun h_ => growBX h_) c hcc) (hpre := fun w hw => ⟨hw.see (i := 2) rfl, hw.seeRows 1 rfl⟩) ?_
       rintro _ _ ⟨z_418, A_419, e_420, ha_421, hb_422, rfl, rfl⟩
       refine go ?_
       refine jB (i := 12) ?_
       refine jf 1 (xc z_418) ?_
       refine jB (i := 13) ?_
       refine jS 4 [iv A_419.code, iv A_419.n, str A_419.text] ?_
       exact jh [4, 1, 0, 0, 0, 0, 0] ⟨a_380, c_381, y_385, z_418, A_419, b_412, b_376, hy_386, e_420, ha_421, hb_422, EL.go, rfl⟩
     refine JX.al xzc fun b_423 => ?_
     refine jB (i := 3) ?_
     refine jI [] (C_toTx p hxl) (hpre := fun w hw => hw.seeOutAE hpre.2.1 nMA) ?_
     rintro _ _ ⟨y_426, hy_427, rfl, rfl⟩
     refine jB (i := 5) ?_
     refine jI [] (N_toCall c) ?_
     rintro _ _ ⟨rfl, rfl⟩
     refine jB (i := 6) ?_
     refine jI [] (Y_sTxAsk y_426 (by rw [hy_427]; exact hxl.mono (show 1048576 ≤ 500000000 by decide)) a_380 c_381 s 1048576 hO (by omega) (by rw [hy_427]; exact hoT) (fun h_ => growX h_) (fun h_ => growTX h_) 200000000 (fun h_ => growBX h_) c hcc) (hpre := fun w hw => ⟨hw.see (i := 2) rfl, hw.seeRows 0 rfl⟩) ?_
     rintro _ _ ⟨z_433, A_434, e_435, ha_436, hb_437, rfl, rfl⟩
     refine go ?_
     refine jB (i := 12) ?_
     refine jf 2 (xc z_433) ?_
     refine jB (i := 13) ?_
     refine jS 4 [iv A_434.code, iv A_434.n, str A_434.text] ?_
     exact jh [4, 2, 0, 0, 0, 0, 0] ⟨a_380, c_381, y_426, z_433, A_434, b_423, b_376, hy_427, e_435, ha_436, hb_437, EL.go, rfl⟩
   refine JX.al xzc fun b_438 => ?_
   refine jB (i := 1) ?_
   refine jI [] (E_toCellS sa sc s (by omega)) (hpre := fun w hw => hw.seeOutE hs_sa nM) ?_
   rintro _ _ ⟨a_441, c_442, rfl, rfl⟩
   refine jB (i := 3) ?_
   refine jI [] (C_toTx p hxl) (hpre := fun w hw => hw.seeOutAE hpre.2.1 nMA) ?_
   rintro _ _ ⟨y_445, hy_446, rfl, rfl⟩
   refine jB (i := 5) ?_
   refine jI [] (N_toCall c) ?_
   rintro _ _ ⟨rfl, rfl⟩
   refine jB (i := 6) ?_
   refine jI [] (Y_sTxAsk y_445 (by rw [hy_446]; exact hxl.mono (show 1048576 ≤ 500000000 by decide)) a_441 c_442 s 1048576 hO (by omega) (by rw [hy_446]; exact hoT) (fun h_ => growX h_) (fun h_ => growTX h_) 200000000 (fun h_ => growBX h_) c hcc) (hpre := fun w hw => ⟨hw.see (i := 1) rfl, hw.seeRows 0 rfl⟩) ?_
   rintro _ _ ⟨z_452, A_453, e_454, ha_455, hb_456, rfl, rfl⟩
   refine go ?_
   refine jB (i := 12) ?_
   refine jf 3 (xc z_452) ?_
   refine jB (i := 13) ?_
   refine jS 4 [iv A_453.code, iv A_453.n, str A_453.text] ?_
   exact jh [4, 3, 0, 0, 0, 0, 0] ⟨a_441, c_442, y_445, z_452, A_453, b_438, b_376, hy_446, e_454, ha_455, hb_456, EL.go, rfl⟩
 rintro _ _ ⟨a_8, c_9, y_10, z_12, A_13, b_17, b_18, hy_11, e_14, ha_15, hb_16, ⟨_, rfl⟩, rfl⟩
 refine jT ?_
 refine JC.nz [(0, .slice sa s.length sc), (4, .pointer (some ⟨b_1, 0, none⟩)), (5, .pointer (some ⟨b_2, 0, none⟩)), (6, .bool false), (8, .pointer (some ⟨b_17, 0, none⟩)), (9, .pointer (some ⟨b_18, 0, none⟩))] [bk b_18 39 [iv A_13.code, iv A_13.n, str A_13.text], bk b_17 35 (xc z_12), Res.rows (rdsX z_12), Res.rows (rdsX y_10), rC a_8 c_9 s, bk b_2 115 [iv c.kind, str c.name, str c.to_, iv c.a, iv c.b, str c.text], bk b_1 114 (xc p)] (fun _ => ?_) 
 refine go ?_
 have hzl_457 := ask_lim (by rw [hy_11]; exact hxl) e_14 hb_16
 obtain ⟨hb_458, hb_459, hb_460, hb_461, hb_462⟩ := id hzl_457
 obtain ⟨hf_463, hf_464, hf_465⟩ := ask_few e_14
 refine go ?_
 refine jA [] (E_toCellS sa sc s (by omega)) (hpre := fun w hw => hw.seeOutE hs_sa nM) ?_
 rintro _ _ ⟨a_466, c_467, rfl, rfl⟩
 refine go ?_
 refine jA [] (C_toTx p hxl) (hpre := fun w hw => hw.seeOutAE hpre.2.1 nMA) ?_
 rintro _ _ ⟨y_468, hy_469, rfl, rfl⟩
 refine jG xzc fun b_470 => ?_
 refine jD 0 (xc y_468) ?_
 refine jb <| jT ?_
 refine JC.nz [(0, .slice sa s.length sc), (4, .pointer (some ⟨b_1, 0, none⟩)), (5, .pointer (some ⟨b_2, 0, none⟩)), (6, .bool false), (8, .pointer (some ⟨b_17, 0, none⟩)), (9, .pointer (some ⟨b_18, 0, none⟩)), (10, .slice a_466 s.length c_467), (11, .pointer (some ⟨b_470, 0, none⟩))] [bk b_470 35 (xc y_468), Res.rows (rdsX y_468), rC a_466 c_467 s, bk b_18 39 [iv A_13.code, iv A_13.n, str A_13.text], bk b_17 35 (xc z_12), Res.rows (rdsX z_12), Res.rows (rdsX y_10), rC a_8 c_9 s, bk b_2 115 [iv c.kind, str c.name, str c.to_, iv c.a, iv c.b, str c.text], bk b_1 114 (xc p)] (fun _ => ?_) 
 refine jc ?_
 refine JC.cut (fun e_ L_ => ∃ z_471 : TX, ∃ A_472 : AN, ∃ b_476 : Nat, ∃ b_477 : Nat, (TD.askV (viewA s y_468.t) y_468.t c = (z_471.t, A_472)) ∧ ((0 ≤ A_472.code ∧ A_472.code ≤ 9) ∧ (-1 ≤ A_472.n ∧ A_472.n ≤ 1000000000) ∧ A_472.text.length ≤ 30000000000000) ∧ (z_471.t.rd.length ≤ y_468.t.rd.length + 200000000 ∧ z_471.t.wr.length ≤ y_468.t.wr.length + 200000000) ∧ EL e_ [(0, .slice sa s.length sc), (4, .pointer (some ⟨b_1, 0, none⟩)), (5, .pointer (some ⟨b_2, 0, none⟩)), (6, .bool false), (8, .pointer (some ⟨b_17, 0, none⟩)), (9, .pointer (some ⟨b_18, 0, none⟩)), (10, .slice a_466 s.length c_467), (11, .pointer (some ⟨b_470, 0, none⟩)), (12, .pointer (some ⟨b_476, 0, none⟩)), (13, .pointer (some ⟨b_477, 0, none⟩))] ∧ L_ = [bk b_477 39 [iv A_472.code, iv A_472.n, str A_472.text], bk b_476 35 (xc z_471), Res.rows (rdsX z_471), bk b_470 35 (xc y_468), Res.rows (rdsX y_468), rC a_466 c_467 s, bk b_18 39 [iv A_13.code, iv A_13.n, str A_13.text], bk b_17 35 (xc z_12), Res.rows (rdsX z_12), Res.rows (rdsX y_10), rC a_8 c_9 s, bk b_2 115 [iv c.kind, str c.name, str c.to_, iv c.a, iv c.b, str c.text], bk b_1 114 (xc p)]) ?_ ?_
 · refine jH [0, 7] 10 ?_
   refine go ?_
   refine kD (i := 3) (j := 8) (k := 9) (by kernel_rfl) ?_ ?_ ?_
   · refine jI [] (N_toCall c) ?_
     rintro _ _ ⟨rfl, rfl⟩
     refine kD (i := 4) (j := 8) (k := 9) (by kernel_rfl) ?_ ?_ ?_
     · refine jI [] (Y_iTxAsk y_468 (by rw [hy_469]; exact hxl.mono (show 1048576 ≤ 500000000 by decide)) a_466 c_467 s 1048576 hO (by omega) (by rw [hy_469]; exact hoT) (fun h_ => growX h_) (fun h_ => growTX h_) 200000000 (fun h_ => growBX h_) c hcc) (hpre := fun w hw => ⟨hw.see (i := 2) rfl, hw.seeRows 1 rfl, hw.hex hlow hpre.2.2⟩) ?_
       rintro _ _ ⟨z_487, A_488, e_489, ha_490, hb_491, rfl, rfl⟩
       refine go ?_
       refine jZ (i := 8) (j := 9) (by kernel_rfl) ?_ ?_
       · refine JX.al xzc fun b_494 => ?_
         refine jB (i := 9) ?_
         refine JX.al [iv 0, iv 0, str []] fun b_496 => ?_
         refine jB (i := 10) ?_
         refine jf 1 (xc z_487) ?_
         refine jB (i := 11) ?_
         refine jS 0 [iv A_488.code, iv A_488.n, str A_488.text] ?_
         exact jh [0, 0, 0, 0, 0, 0, 0, 0, 0, 0, 0, 0, 0] ⟨z_487, A_488, b_494, b_496, e_489, ha_490, hb_491, EL.go, rfl⟩
       refine JX.al [iv 0, iv 0, str []] fun b_497 => ?_
       refine jB (i := 8) ?_
       refine JX.al xzc fun b_499 => ?_
       refine jB (i := 10) ?_
       refine jf 0 (xc z_487) ?_
       refine jB (i := 11) ?_
       refine jS 1 [iv A_488.code, iv A_488.n, str A_488.text] ?_
       exact jh [1, 0, 0, 0, 0, 0, 0, 0, 0, 0, 0, 0, 0] ⟨z_487, A_488, b_499, b_497, e_489, ha_490, hb_491, EL.go, rfl⟩
     · refine JX.al xzc fun b_500 => ?_
       refine jZ (i := 4) (j := 9) (by kernel_rfl) ?_ ?_
       · refine jI [] (Y_iTxAsk y_468 (by rw [hy_469]; exact hxl.mono (show 1048576 ≤ 500000000 by decide)) a_466 c_467 s 1048576 hO (by omega) (by rw [hy_469]; exact hoT) (fun h_ => growX h_) (fun h_ => growTX h_) 200000000 (fun h_ => growBX h_) c hcc) (hpre := fun w hw => ⟨hw.see (i := 3) rfl, hw.seeRows 2 rfl, hw.hex hlow hpre.2.2⟩) ?_
         rintro _ _ ⟨z_507, A_508, e_509, ha_510, hb_511, rfl, rfl⟩
         refine go ?_
         refine jB (i := 9) ?_
         refine JX.al [iv 0, iv 0, str []] fun b_513 => ?_
         refine jB (i := 10) ?_
         refine jf 2 (xc z_507) ?_
         refine jB (i := 11) ?_
         refine jS 0 [iv A_508.code, iv A_508.n, str A_508.text] ?_
         exact jh [0, 1, 0, 0, 0, 0, 0, 0, 0, 0, 0, 0, 0] ⟨z_507, A_508, b_500, b_513, e_509, ha_510, hb_511, EL.go, rfl⟩
       refine JX.al [iv 0, iv 0, str []] fun b_514 => ?_
       refine jB (i := 4) ?_
       refine jI [] (Y_iTxAsk y_468 (by rw [hy_469]; exact hxl.mono (show 1048576 ≤ 500000000 by decide)) a_466 c_467 s 1048576 hO (by omega) (by rw [hy_469]; exact hoT) (fun h_ => growX h_) (fun h_ => growTX h_) 200000000 (fun h_ => growBX h_) c hcc) (hpre := fun w hw => ⟨hw.see (i := 4) rfl, hw.seeRows 3 rfl, hw.hex hlow hpre.2.2⟩) ?_
       rintro _ _ ⟨z_520, A_521, e_522, ha_523, hb_524, rfl, rfl⟩
       refine go ?_
       refine jB (i := 10) ?_
       refine jf 2 (xc z_520) ?_
       refine jB (i := 11) ?_
       refine jS 1 [iv A_521.code, iv A_521.n, str A_521.text] ?_
       exact jh [1, 1, 0, 0, 0, 0, 0, 0, 0, 0, 0, 0, 0] ⟨z_520, A_521, b_500, b_514, e_522, ha_523, hb_524, EL.go, rfl⟩
     refine JX.al [iv 0, iv 0, str []] fun b_525 => ?_
     refine jZ (i := 4) (j := 8) (by kernel_rfl) ?_ ?_
     · refine jI [] (Y_iTxAsk y_468 (by rw [hy_469]; exact hxl.mono (show 1048576 ≤ 500000000 by decide)) a_466 c_467 s 1048576 hO (by omega) (by rw [hy_469]; exact hoT) (fun h_ => growX h_) (fun h_ => growTX h_) 200000000 (fun h_ => growBX h_) c hcc) (hpre := fun w hw => ⟨hw.see (i := 3) rfl, hw.seeRows 2 rfl, hw.hex hlow hpre.2.2⟩) ?_
       rintro _ _ ⟨z_532, A_533, e_534, ha_535, hb_536, rfl, rfl⟩
       refine go ?_
       refine jB (i := 8) ?_
       refine JX.al xzc fun b_538 => ?_
       refine jB (i := 10) ?_
       refine jf 0 (xc z_532) ?_
       refine jB (i := 11) ?_
       refine jS 2 [iv A_533.code, iv A_533.n, str A_533.text] ?_
       exact jh [2, 0, 0, 0, 0, 0, 0, 0, 0, 0, 0, 0, 0] ⟨z_532, A_533, b_538, b_525, e_534, ha_535, hb_536, EL.go, rfl⟩
     refine JX.al xzc fun b_539 => ?_
     refine jB (i := 4) ?_
     refine jI [] (Y_iTxAsk y_468 (by rw [hy_469]; exact hxl.mono (show 1048576 ≤ 500000000 by decide)) a_466 c_467 s 1048576 hO (by omega) (by rw [hy_469]; exact hoT) (fun h_ => growX h_) (fun h_ => growTX h_) 200000000 (fun h_ => growBX h_) c hcc) (hpre := fun w hw => ⟨hw.see (i := 4) rfl, hw.seeRows 3 rfl, hw.hex hlow hpre.2.2⟩) ?_
     rintro _ _ ⟨z_545, A_546, e_547, ha_548, hb_549, rfl, rfl⟩
     refine go ?_
     refine jB (i := 10) ?_
     refine jf 1 (xc z_545) ?_
     refine jB (i := 11) ?_
     refine jS 2 [iv A_546.code, iv A_546.n, str A_546.text] ?_
     exact jh [2, 1, 0, 0, 0, 0, 0, 0, 0, 0, 0, 0, 0] ⟨z_545, A_546, b_539, b_525, e_547, ha_548, hb_549, EL.go, rfl⟩
   · refine JX.al xzc fun b_550 => ?_
     refine jZ (i := 3) (j := 9) (by kernel_rfl) ?_ ?_
     · refine jI [] (N_toCall c) ?_
       rintro _ _ ⟨rfl, rfl⟩
       refine jZ (i := 4) (j := 9) (by kernel_rfl) ?_ ?_
       · refine jI [] (Y_iTxAsk y_468 (by rw [hy_469]; exact hxl.mono (show 1048576 ≤ 500000000 by decide)) a_466 c_467 s 1048576 hO (by omega) (by rw [hy_469]; exact hoT) (fun h_ => growX h_) (fun h_ => growTX h_) 200000000 (fun h_ => growBX h_) c hcc) (hpre := fun w hw => ⟨hw.see (i := 3) rfl, hw.seeRows 2 rfl, hw.hex hlow hpre.2.2⟩) ?_
         rintro _ _ ⟨z_558, A_559, e_560, ha_561, hb_562, rfl, rfl⟩
         refine go ?_
         refine jB (i := 9) ?_
         refine JX.al [iv 0, iv 0, str []] fun b_564 => ?_
         refine jB (i := 10) ?_
         refine jf 2 (xc z_558) ?_
         refine jB (i := 11) ?_
         refine jS 0 [iv A_559.code, iv A_559.n, str A_559.text] ?_
         exact jh [0, 1, 0, 0, 0, 0, 0, 0, 0, 0, 0, 0, 0] ⟨z_558, A_559, b_550, b_564, e_560, ha_561, hb_562, EL.go, rfl⟩
       refine JX.al [iv 0, iv 0, str []] fun b_565 => ?_
       refine jB (i := 4) ?_
       refine jI [] (Y_iTxAsk y_468 (by rw [hy_469]; exact hxl.mono (show 1048576 ≤ 500000000 by decide)) a_466 c_467 s 1048576 hO (by omega) (by rw [hy_469]; exact hoT) (fun h_ => growX h_) (fun h_ => growTX h_) 200000000 (fun h_ => growBX h_) c hcc) (hpre := fun w hw => ⟨hw.see (i := 4) rfl, hw.seeRows 3 rfl, hw.hex hlow hpre.2.2⟩) ?_
       rintro _ _ ⟨z_571, A_572, e_573, ha_574, hb_575, rfl, rfl⟩
       refine go ?_
       refine jB (i := 10) ?_
       refine jf 2 (xc z_571) ?_
       refine jB (i := 11) ?_
       refine jS 1 [iv A_572.code, iv A_572.n, str A_572.text] ?_
       exact jh [1, 1, 0, 0, 0, 0, 0, 0, 0, 0, 0, 0, 0] ⟨z_571, A_572, b_550, b_565, e_573, ha_574, hb_575, EL.go, rfl⟩
     refine JX.al [iv 0, iv 0, str []] fun b_576 => ?_
     refine jB (i := 3) ?_
     refine jI [] (N_toCall c) ?_
     rintro _ _ ⟨rfl, rfl⟩
     refine jB (i := 4) ?_
     refine jI [] (Y_iTxAsk y_468 (by rw [hy_469]; exact hxl.mono (show 1048576 ≤ 500000000 by decide)) a_466 c_467 s 1048576 hO (by omega) (by rw [hy_469]; exact hoT) (fun h_ => growX h_) (fun h_ => growTX h_) 200000000 (fun h_ => growBX h_) c hcc) (hpre := fun w hw => ⟨hw.see (i := 4) rfl, hw.seeRows 3 rfl, hw.hex hlow hpre.2.2⟩) ?_
     rintro _ _ ⟨z_582, A_583, e_584, ha_585, hb_586, rfl, rfl⟩
     refine go ?_
     refine jB (i := 10) ?_
     refine jf 2 (xc z_582) ?_
     refine jB (i := 11) ?_
     refine jS 1 [iv A_583.code, iv A_583.n, str A_583.text] ?_
     exact jh [1, 1, 0, 0, 0, 0, 0, 0, 0, 0, 0, 0, 0] ⟨z_582, A_583, b_550, b_576, e_584, ha_585, hb_586, EL.go, rfl⟩
   refine JX.al [iv 0, iv 0, str []] fun b_587 => ?_
   refine jZ (i := 3) (j := 8) (by kernel_rfl) ?_ ?_
   · refine jI [] (N_toCall c) ?_
     rintro _ _ ⟨rfl, rfl⟩
     refine jZ (i := 4) (j := 8) (by kernel_rfl) ?_ ?_
     · refine jI [] (Y_iTxAsk y_468 (by rw [hy_469]; exact hxl.mono (show 1048576 ≤ 500000000 by decide)) a_466 c_467 s 1048576 hO (by omega) (by rw [hy_469]; exact hoT) (fun h_ => growX h_) (fun h_ => growTX h_) 200000000 (fun h_ => growBX h_) c hcc) (hpre := fun w hw => ⟨hw.see (i := 3) rfl, hw.seeRows 2 rfl, hw.hex hlow hpre.2.2⟩) ?_
       rintro _ _ ⟨z_595, A_596, e_597, ha_598, hb_599, rfl, rfl⟩
       refine go ?_
       refine jB (i := 8) ?_
       refine JX.al xzc fun b_601 => ?_
       refine jB (i := 10) ?_
       refine jf 0 (xc z_595) ?_
       refine jB (i := 11) ?_
       refine jS 2 [iv A_596.code, iv A_596.n, str A_596.text] ?_
       exact jh [2, 0, 0, 0, 0, 0, 0, 0, 0, 0, 0, 0, 0] ⟨z_595, A_596, b_601, b_587, e_597, ha_598, hb_599, EL.go, rfl⟩
     refine JX.al xzc fun b_602 => ?_
     refine jB (i := 4) ?_
     refine jI [] (Y_iTxAsk y_468 (by rw [hy_469]; exact hxl.mono (show 1048576 ≤ 500000000 by decide)) a_466 c_467 s 1048576 hO (by omega) (by rw [hy_469]; exact hoT) (fun h_ => growX h_) (fun h_ => growTX h_) 200000000 (fun h_ => growBX h_) c hcc) (hpre := fun w hw => ⟨hw.see (i := 4) rfl, hw.seeRows 3 rfl, hw.hex hlow hpre.2.2⟩) ?_
     rintro _ _ ⟨z_608, A_609, e_610, ha_611, hb_612, rfl, rfl⟩
     refine go ?_
     refine jB (i := 10) ?_
     refine jf 1 (xc z_608) ?_
     refine jB (i := 11) ?_
     refine jS 2 [iv A_609.code, iv A_609.n, str A_609.text] ?_
     exact jh [2, 1, 0, 0, 0, 0, 0, 0, 0, 0, 0, 0, 0] ⟨z_608, A_609, b_602, b_587, e_610, ha_611, hb_612, EL.go, rfl⟩
   refine JX.al xzc fun b_613 => ?_
   refine jB (i := 3) ?_
   refine jI [] (N_toCall c) ?_
   rintro _ _ ⟨rfl, rfl⟩
   refine jB (i := 4) ?_
   refine jI [] (Y_iTxAsk y_468 (by rw [hy_469]; exact hxl.mono (show 1048576 ≤ 500000000 by decide)) a_466 c_467 s 1048576 hO (by omega) (by rw [hy_469]; exact hoT) (fun h_ => growX h_) (fun h_ => growTX h_) 200000000 (fun h_ => growBX h_) c hcc) (hpre := fun w hw => ⟨hw.see (i := 4) rfl, hw.seeRows 3 rfl, hw.hex hlow hpre.2.2⟩) ?_
   rintro _ _ ⟨z_619, A_620, e_621, ha_622, hb_623, rfl, rfl⟩
   refine go ?_
   refine jB (i := 10) ?_
   refine jf 1 (xc z_619) ?_
   refine jB (i := 11) ?_
   refine jS 2 [iv A_620.code, iv A_620.n, str A_620.text] ?_
   exact jh [2, 1, 0, 0, 0, 0, 0, 0, 0, 0, 0, 0, 0] ⟨z_619, A_620, b_613, b_587, e_621, ha_622, hb_623, EL.go, rfl⟩
 rintro _ _ ⟨z_471, A_472, b_476, b_477, e_473, ha_474, hb_475, ⟨_, rfl⟩, rfl⟩
 refine jT <| jc ?_
 refine JC.nz [(0, .slice sa s.length sc), (4, .pointer (some ⟨b_1, 0, none⟩)), (5, .pointer (some ⟨b_2, 0, none⟩)), (6, .bool false), (8, .pointer (some ⟨b_17, 0, none⟩)), (9, .pointer (some ⟨b_18, 0, none⟩)), (10, .slice a_466 s.length c_467), (11, .pointer (some ⟨b_470, 0, none⟩)), (12, .pointer (some ⟨b_476, 0, none⟩)), (13, .pointer (some ⟨b_477, 0, none⟩))] [bk b_477 39 [iv A_472.code, iv A_472.n, str A_472.text], bk b_476 35 (xc z_471), Res.rows (rdsX z_471), bk b_470 35 (xc y_468), Res.rows (rdsX y_468), rC a_466 c_467 s, bk b_18 39 [iv A_13.code, iv A_13.n, str A_13.text], bk b_17 35 (xc z_12), Res.rows (rdsX z_12), Res.rows (rdsX y_10), rC a_8 c_9 s, bk b_2 115 [iv c.kind, str c.name, str c.to_, iv c.a, iv c.b, str c.text], bk b_1 114 (xc p)] (fun _ => ?_) 
 refine go ?_
 have hzl_624 := ask_lim (by rw [hy_469]; exact hxl) e_473 hb_475
 obtain ⟨hb_625, hb_626, hb_627, hb_628, hb_629⟩ := id hzl_624
 obtain ⟨hf_630, hf_631, hf_632⟩ := ask_few e_473
 obtain ⟨hzt_633, rfl⟩ := ask_same hy_11 hy_469 e_14 (ask_A e_473)
 refine go ?_
 refine jN [] (C_eqTx z_471 z_12 (hzl_624.mono (show 500000000 ≤ 1000000000 by decide))) (hpre := fun w hw => ⟨hw.seeRows 2 rfl, hw.seeRows 8 rfl⟩) ?_
 refine go ?_
 have h_634 : z_471.t = z_12.t := (by simp only [hy_11, hy_469, hzt_633])
 refine go ?_
 refine jW rfl rfl rfl (cB (cN (dT h_634))) (jO [] Tryz.call90 rfl (N_eqAnswer A_13) rfl (fun _ _ => trivial)) ?_
 rintro _ _ ⟨_, ⟨rfl, rfl⟩, rfl⟩
 refine go ?_
 refine jA [] (E_toCellS sa sc s (by omega)) (hpre := fun w hw => hw.seeOutE hs_sa nM) ?_
 rintro _ _ ⟨a_635, c_636, rfl, rfl⟩
 refine jN [] (C_eqCellS a_466 a_635 c_467 c_636 s s (by omega)) (hpre := fun w hw => ⟨hw.see (i := 6) rfl, hw.see (i := 0) rfl⟩) ?_
 first | refine kA 69 (v := .bool true) (cB (dT rfl)) ?_ | refine jv 69 (v := .bool true) (cB (dT rfl)) ?_ | refine kB 69 (v := .bool true) (cB (dT rfl)) ?_ | refine kC 69 (v := .bool true) (cB (dT rfl)) ?_
 refine gQ ?_
 refine jb ?_
 first | refine JQ.pk [1, 1, 1, 1, 1, 1, 1, 1, 1, 3, 3] ?_ | refine JC.pk [1, 1, 1, 1, 1, 1, 1, 1, 1, 3, 3] ?_ | refine JL.pk [1, 1, 1, 1, 1, 1, 1, 1, 1, 3, 3] ?_
 refine go ?_
 refine jH [3, 9] 1000 ?_
 refine go ?_
 refine jB (i := 2) ?_
 refine jI [] (C_toTx p hxl) (hpre := fun w hw => hw.seeOutAE hpre.2.1 nMA) ?_
 rintro _ _ ⟨y_639, hy_640, rfl, rfl⟩
 refine jB (i := 3) ?_
 refine jI [] (C_eqTx y_468 y_639 (by rw [hy_469]; exact hxl.mono (show 1048576 ≤ 1000000000 by decide))) (hpre := fun w hw => ⟨hw.seeRows 5 rfl, hw.seeRows 0 rfl⟩) ?_
 rintro _ _ ⟨rfl, rfl⟩
 refine go ?_
 have h_641 : y_468.t = y_639.t := (by simp only [hy_11, hy_469, hy_640, hzt_633])
 refine JC.condF (cB (cN (dT h_641))) <| JC.skip <| jT <| jc <| jy ?_
 refine gQ ?_
 refine jb <| jT ?_
 refine JC.nz [(0, .slice sa s.length sc), (4, .pointer (some ⟨b_1, 0, none⟩)), (5, .pointer (some ⟨b_2, 0, none⟩)), (6, .bool false), (8, .pointer (some ⟨b_17, 0, none⟩)), (9, .pointer (some ⟨b_18, 0, none⟩)), (10, .slice a_466 s.length c_467), (11, .pointer (some ⟨b_470, 0, none⟩)), (12, .pointer (some ⟨b_476, 0, none⟩)), (13, .pointer (some ⟨b_477, 0, none⟩)), (14, iv 1)] [Res.rows (rdsX y_639), bk b_477 39 [iv A_13.code, iv A_13.n, str A_13.text], bk b_476 35 (xc z_471), Res.rows (rdsX z_471), bk b_470 35 (xc y_468), Res.rows (rdsX y_468), rC a_466 c_467 s, bk b_18 39 [iv A_13.code, iv A_13.n, str A_13.text], bk b_17 35 (xc z_12), Res.rows (rdsX z_12), bk b_2 115 [iv c.kind, str c.name, str c.to_, iv c.a, iv c.b, str c.text], bk b_1 114 (xc p)] (fun _ => ?_) 
 refine go ?_
 refine jN [6] (C_markCellS a_466 c_467 s 1 (by omega) (by omega)) ?_
 refine go ?_
 obtain ⟨hb_642, hb_643, hb_644, hb_645, hb_646⟩ : y_468.t.lim 1048576 := by rw [hy_469]; exact hxl
 refine go ?_
 refine jN [6] (Y_markTx y_468 (1 + 2 * s.length) (by omega) (by omega)) ?_
 refine gQ ?_
 refine jb ?_
 first | refine JQ.pk [3, 3, 3, 4, 4, 4, 4, 4] ?_ | refine JC.pk [3, 3, 3, 4, 4, 4, 4, 4] ?_ | refine JL.pk [3, 3, 3, 4, 4, 4, 4, 4] ?_
 refine jT <| jc ?_
 refine JC.nz [(0, .slice sa s.length sc), (4, .pointer (some ⟨b_1, 0, none⟩)), (5, .pointer (some ⟨b_2, 0, none⟩)), (6, .bool false), (8, .pointer (some ⟨b_17, 0, none⟩)), (9, .pointer (some ⟨b_18, 0, none⟩)), (12, .pointer (some ⟨b_476, 0, none⟩)), (13, .pointer (some ⟨b_477, 0, none⟩)), (14, iv ((1 + 2 * s.length + 6 * y_468.t.calls.length + 3 * y_468.t.ans.length + y_468.t.rd.length + y_468.t.wr.length + 1 * y_468.t.marks.length : Nat) : Int))] [bk b_477 39 [iv A_13.code, iv A_13.n, str A_13.text], bk b_476 35 (xc z_471), Res.rows (rdsX z_471), bk b_18 39 [iv A_13.code, iv A_13.n, str A_13.text], bk b_17 35 (xc z_12), Res.rows (rdsX z_12), bk b_2 115 [iv c.kind, str c.name, str c.to_, iv c.a, iv c.b, str c.text], bk b_1 114 (xc p)] (fun _ => ?_) 
 refine go ?_
 have h_647 : ¬ (((1 + 2 * s.length + 6 * y_468.t.calls.length + 3 * y_468.t.ans.length + y_468.t.rd.length + y_468.t.wr.length + 1 * y_468.t.marks.length : Nat) : Int) < 0) := (by omega)
 refine go ?_
 refine jW rfl rfl rfl (cB (dF h_647)) (jO [] Tryz.call89 rfl (C_eqTx z_471 z_12 (hzl_624.mono (show 500000000 ≤ 1000000000 by decide))) rfl (fun w hw => ⟨hw.seeRows 2 rfl, hw.seeRows 5 rfl⟩)) ?_
 rintro _ _ ⟨_, ⟨rfl, rfl⟩, rfl⟩
 refine go ?_
 refine jW rfl rfl rfl (cB (cN (dT h_634))) (jO [] Tryz.call90 rfl (N_eqAnswer A_13) rfl (fun _ _ => trivial)) ?_
 rintro _ _ ⟨_, ⟨rfl, rfl⟩, rfl⟩
 refine gQ ?_
 refine jb <| jT <| JC.condF (cB rfl) <| JC.skip <| jT <| jc <| jy ?_
 refine gQ ?_
 refine jb <| jT ?_
 refine JC.nz [(0, .slice sa s.length sc), (4, .pointer (some ⟨b_1, 0, none⟩)), (5, .pointer (some ⟨b_2, 0, none⟩)), (6, .bool false), (8, .pointer (some ⟨b_17, 0, none⟩)), (9, .pointer (some ⟨b_18, 0, none⟩)), (12, .pointer (some ⟨b_476, 0, none⟩)), (15, iv 1)] [bk b_477 39 [iv A_13.code, iv A_13.n, str A_13.text], bk b_476 35 (xc z_471), Res.rows (rdsX z_471), bk b_18 39 [iv A_13.code, iv A_13.n, str A_13.text], bk b_17 35 (xc z_12), Res.rows (rdsX z_12), bk b_2 115 [iv c.kind, str c.name, str c.to_, iv c.a, iv c.b, str c.text], bk b_1 114 (xc p)] (fun _ => ?_) 
 refine go ?_
 refine jN [2] (Y_markTx z_471 1 (by omega) (by omega)) ?_
 refine go ?_
 refine jN [] (Y_heldK z_471 1 (by omega) (by omega)) (hpre := fun w hw => hw.seeRows 0 rfl) ?_
 refine go ?_
 have h_648 : ¬ (((heldN (1 + 6 * z_471.t.calls.length + 3 * z_471.t.ans.length + z_471.t.rd.length + z_471.t.wr.length + 1 * z_471.t.marks.length) : Nat) : Int) < 0) := (by omega)
 refine go ?_
 have h_649 : ((heldN (1 + 6 * z_471.t.calls.length + 3 * z_471.t.ans.length + z_471.t.rd.length + z_471.t.wr.length + 1 * z_471.t.marks.length) : Nat) : Int) = ((1 + 6 * z_471.t.calls.length + 3 * z_471.t.ans.length + z_471.t.rd.length + z_471.t.wr.length + 1 * z_471.t.marks.length : Nat) : Int) := (congrArg Nat.cast (heldN_eq _))
 refine JC.condF (cB (cN (dT h_649))) <| JC.skip <| jT ?_
 refine JC.nz [(0, .slice sa s.length sc), (4, .pointer (some ⟨b_1, 0, none⟩)), (5, .pointer (some ⟨b_2, 0, none⟩)), (6, .bool false), (8, .pointer (some ⟨b_17, 0, none⟩)), (9, .pointer (some ⟨b_18, 0, none⟩)), (12, .pointer (some ⟨b_476, 0, none⟩)), (15, iv ((1 + 6 * z_471.t.calls.length + 3 * z_471.t.ans.length + z_471.t.rd.length + z_471.t.wr.length + 1 * z_471.t.marks.length : Nat) : Int)), (16, iv ((heldN (1 + 6 * z_471.t.calls.length + 3 * z_471.t.ans.length + z_471.t.rd.length + z_471.t.wr.length + 1 * z_471.t.marks.length) : Nat) : Int))] [Res.rows (rdsX (mkY z_471 1)), bk b_477 39 [iv A_13.code, iv A_13.n, str A_13.text], bk b_476 35 (xc z_471), bk b_18 39 [iv A_13.code, iv A_13.n, str A_13.text], bk b_17 35 (xc z_12), Res.rows (rdsX z_12), bk b_2 115 [iv c.kind, str c.name, str c.to_, iv c.a, iv c.b, str c.text], bk b_1 114 (xc p)] (fun _ => ?_) 
 refine jc ?_
 refine JC.cut (fun e_ L_ => ∃ a_650 : Option Addr, ∃ c_651 : Nat, ∃ y_652 : TX, ∃ z_654 : TX, ∃ A_655 : AN, ∃ b_659 : Nat, ∃ b_660 : Nat, (y_652.t = p.t) ∧ (TD.askV (viewA s y_652.t) y_652.t c = (z_654.t, A_655)) ∧ ((0 ≤ A_655.code ∧ A_655.code ≤ 9) ∧ (-1 ≤ A_655.n ∧ A_655.n ≤ 1000000000) ∧ A_655.text.length ≤ 30000000000000) ∧ (z_654.t.rd.length ≤ y_652.t.rd.length + 200000000 ∧ z_654.t.wr.length ≤ y_652.t.wr.length + 200000000) ∧ EL e_ [(6, .bool false), (8, .pointer (some ⟨b_17, 0, none⟩)), (9, .pointer (some ⟨b_18, 0, none⟩)), (12, .pointer (some ⟨b_476, 0, none⟩)), (15, iv ((1 + 6 * z_471.t.calls.length + 3 * z_471.t.ans.length + z_471.t.rd.length + z_471.t.wr.length + 1 * z_471.t.marks.length : Nat) : Int)), (16, iv ((heldN (1 + 6 * z_471.t.calls.length + 3 * z_471.t.ans.length + z_471.t.rd.length + z_471.t.wr.length + 1 * z_471.t.marks.length) : Nat) : Int)), (17, .pointer (some ⟨b_659, 0, none⟩)), (18, .pointer (some ⟨b_660, 0, none⟩))] ∧ L_ = [bk b_660 39 [iv A_655.code, iv A_655.n, str A_655.text], bk b_659 35 (xc z_654), Res.rows (rdsX z_654), Res.rows (rdsX y_652), rC a_650 c_651 s, Res.rows (rdsX (mkY z_471 1)), bk b_477 39 [iv A_13.code, iv A_13.n, str A_13.text], bk b_476 35 (xc z_471), bk b_18 39 [iv A_13.code, iv A_13.n, str A_13.text], bk b_17 35 (xc z_12), Res.rows (rdsX z_12), bk b_2 115 [iv c.kind, str c.name, str c.to_, iv c.a, iv c.b, str c.text], bk b_1 114 (xc p)]) ?_ ?_
 · refine jH [6, 6] 12 ?_
   refine go ?_
   refine kD (i := 1) (j := 10) (k := 11) (by kernel_rfl) ?_ ?_ ?_
   · refine jI [] (E_toCellS sa sc s (by omega)) (hpre := fun w hw => hw.seeOutE hs_sa nM) ?_
     rintro _ _ ⟨a_669, c_670, rfl, rfl⟩
     refine kD (i := 3) (j := 10) (k := 11) (by kernel_rfl) ?_ ?_ ?_
     · refine jI [] (C_toTx p hxl) (hpre := fun w hw => hw.seeOutAE hpre.2.1 nMA) ?_
       rintro _ _ ⟨y_675, hy_676, rfl, rfl⟩
       refine kD (i := 5) (j := 10) (k := 11) (by kernel_rfl) ?_ ?_ ?_
       · refine jI [] (N_toCall c) ?_
         rintro _ _ ⟨rfl, rfl⟩
         refine kD (i := 6) (j := 10) (k := 11) (by kernel_rfl) ?_ ?_ ?_
         · refine jI [] (Y_iTxAsk y_675 (by rw [hy_676]; exact hxl.mono (show 1048576 ≤ 500000000 by decide)) a_669 c_670 s 1048576 hO (by omega) (by rw [hy_676]; exact hoT) (fun h_ => growX h_) (fun h_ => growTX h_) 200000000 (fun h_ => growBX h_) c hcc) (hpre := fun w hw => ⟨hw.see (i := 1) rfl, hw.seeRows 0 rfl, hw.hex hlow hpre.2.2⟩) ?_
           rintro _ _ ⟨z_686, A_687, e_688, ha_689, hb_690, rfl, rfl⟩
           refine go ?_
           refine jZ (i := 10) (j := 11) (by kernel_rfl) ?_ ?_
           · refine JX.al xzc fun b_693 => ?_
             refine jB (i := 11) ?_
             refine JX.al [iv 0, iv 0, str []] fun b_695 => ?_
             refine jB (i := 12) ?_
             refine jf 1 (xc z_686) ?_
             refine jB (i := 13) ?_
             refine jS 0 [iv A_687.code, iv A_687.n, str A_687.text] ?_
             exact jh [0, 0, 0, 0, 0, 0, 0, 0, 0, 0, 0, 0, 0] ⟨a_669, c_670, y_675, z_686, A_687, b_693, b_695, hy_676, e_688, ha_689, hb_690, EL.go, rfl⟩
           refine JX.al [iv 0, iv 0, str []] fun b_696 => ?_
           refine jB (i := 10) ?_
           refine JX.al xzc fun b_698 => ?_
           refine jB (i := 12) ?_
           refine jf 0 (xc z_686) ?_
           refine jB (i := 13) ?_
           refine jS 1 [iv A_687.code, iv A_687.n, str A_687.text] ?_
           exact jh [1, 0, 0, 0, 0, 0, 0, 0, 0, 0, 0, 0, 0] ⟨a_669, c_670, y_675, z_686, A_687, b_698, b_696, hy_676, e_688, ha_689, hb_690, EL.go, rfl⟩
         · refine JX.al xzc fun b_699 => ?_
           refine jZ (i := 6) (j := 11) (by kernel_rfl) ?_ ?_
           · refine jI [] (Y_iTxAsk y_675 (by rw [hy_676]; exact hxl.mono (show 1048576 ≤ 500000000 by decide)) a_669 c_670 s 1048576 hO (by omega) (by rw [hy_676]; exact hoT) (fun h_ => growX h_) (fun h_ => growTX h_) 200000000 (fun h_ => growBX h_) c hcc) (hpre := fun w hw => ⟨hw.see (i := 2) rfl, hw.seeRows 1 rfl, hw.hex hlow hpre.2.2⟩) ?_
             rintro _ _ ⟨z_706, A_707, e_708, ha_709, hb_710, rfl, rfl⟩
             refine go ?_
             refine jB (i := 11) ?_
             refine JX.al [iv 0, iv 0, str []] fun b_712 => ?_
             refine jB (i := 12) ?_
             refine jf 2 (xc z_706) ?_
             refine jB (i := 13) ?_
             refine jS 0 [iv A_707.code, iv A_707.n, str A_707.text] ?_
             exact jh [0, 1, 0, 0, 0, 0, 0, 0, 0, 0, 0, 0, 0] ⟨a_669, c_670, y_675, z_706, A_707, b_699, b_712, hy_676, e_708, ha_709, hb_710, EL.go, rfl⟩
           refine JX.al [iv 0, iv 0, str []] fun b_713 => ?_
           refine jB (i := 6) ?_
           refine jI [] (Y_iTxAsk y_675 (by rw [hy_676]; exact hxl.mono (show 1048576 ≤ 500000000 by decide)) a_669 c_670 s 1048576 hO (by omega) (by rw [hy_676]; exact hoT) (fun h_ => growX h_) (fun h_ => growTX h_) 200000000 (fun h_ => growBX h_) c hcc) (hpre := fun w hw => ⟨hw.see (i := 3) rfl, hw.seeRows 2 rfl, hw.hex hlow hpre.2.2⟩) ?_
           rintro _ _ ⟨z_719, A_720, e_721, ha_722, hb_723, rfl, rfl⟩
           refine go ?_
           refine jB (i := 12) ?_
           refine jf 2 (xc z_719) ?_
           refine jB (i := 13) ?_
           refine jS 1 [iv A_720.code, iv A_720.n, str A_720.text] ?_
           exact jh [1, 1, 0, 0, 0, 0, 0, 0, 0, 0, 0, 0, 0] ⟨a_669, c_670, y_675, z_719, A_720, b_699, b_713, hy_676, e_721, ha_722, hb_723, EL.go, rfl⟩
         refine JX.al [iv 0, iv 0, str []] fun b_724 => ?_
         refine jZ (i := 6) (j := 10) (by kernel_rfl) ?_ ?_
         · refine jI [] (Y_iTxAsk y_675 (by rw [hy_676]; exact hxl.mono (show 1048576 ≤ 500000000 by decide)) a_669 c_670 s 1048576 hO (by omega) (by rw [hy_676]; exact hoT) (fun h_ => growX h_) (fun h_ => growTX h_) 200000000 (fun h_ => growBX h_) c hcc) (hpre := fun w hw => ⟨hw.see (i := 2) rfl, hw.seeRows 1 rfl, hw.hex hlow hpre.2.2⟩) ?_
           rintro _ _ ⟨z_731, A_732, e_733, ha_734, hb_735, rfl, rfl⟩
           refine go ?_
           refine jB (i := 10) ?_
           refine JX.al xzc fun b_737 => ?_
           refine jB (i := 12) ?_
           refine jf 0 (xc z_731) ?_
           refine jB (i := 13) ?_
           refine jS 2 [iv A_732.code, iv A_732.n, str A_732.text] ?_
           exact jh [2, 0, 0, 0, 0, 0, 0, 0, 0, 0, 0, 0, 0] ⟨a_669, c_670, y_675, z_731, A_732, b_737, b_724, hy_676, e_733, ha_734, hb_735, EL.go, rfl⟩
         refine JX.al xzc fun b_738 => ?_
         refine jB (i := 6) ?_
         refine jI [] (Y_iTxAsk y_675 (by rw [hy_676]; exact hxl.mono (show 1048576 ≤ 500000000 by decide)) a_669 c_670 s 1048576 hO (by omega) (by rw [hy_676]; exact hoT) (fun h_ => growX h_) (fun h_ => growTX h_) 200000000 (fun h_ => growBX h_) c hcc) (hpre := fun w hw => ⟨hw.see (i := 3) rfl, hw.seeRows 2 rfl, hw.hex hlow hpre.2.2⟩) ?_
         rintro _ _ ⟨z_744, A_745, e_746, ha_747, hb_748, rfl, rfl⟩
         refine go ?_
         refine jB (i := 12) ?_
         refine jf 1 (xc z_744) ?_
         refine jB (i := 13) ?_
         refine jS 2 [iv A_745.code, iv A_745.n, str A_745.text] ?_
         exact jh [2, 1, 0, 0, 0, 0, 0, 0, 0, 0, 0, 0, 0] ⟨a_669, c_670, y_675, z_744, A_745, b_738, b_724, hy_676, e_746, ha_747, hb_748, EL.go, rfl⟩
       · refine JX.al xzc fun b_749 => ?_
         refine jZ (i := 5) (j := 11) (by kernel_rfl) ?_ ?_
         · refine jI [] (N_toCall c) ?_
           rintro _ _ ⟨rfl, rfl⟩
           refine jZ (i := 6) (j := 11) (by kernel_rfl) ?_ ?_
           · refine jI [] (Y_iTxAsk y_675 (by rw [hy_676]; exact hxl.mono (show 1048576 ≤ 500000000 by decide)) a_669 c_670 s 1048576 hO (by omega) (by rw [hy_676]; exact hoT) (fun h_ => growX h_) (fun h_ => growTX h_) 200000000 (fun h_ => growBX h_) c hcc) (hpre := fun w hw => ⟨hw.see (i := 2) rfl, hw.seeRows 1 rfl, hw.hex hlow hpre.2.2⟩) ?_
             rintro _ _ ⟨z_757, A_758, e_759, ha_760, hb_761, rfl, rfl⟩
             refine go ?_
             refine jB (i := 11) ?_
             refine JX.al [iv 0, iv 0, str []] fun b_763 => ?_
             refine jB (i := 12) ?_
             refine jf 2 (xc z_757) ?_
             refine jB (i := 13) ?_
             refine jS 0 [iv A_758.code, iv A_758.n, str A_758.text] ?_
             exact jh [0, 1, 0, 0, 0, 0, 0, 0, 0, 0, 0, 0, 0] ⟨a_669, c_670, y_675, z_757, A_758, b_749, b_763, hy_676, e_759, ha_760, hb_761, EL.go, rfl⟩
           refine JX.al [iv 0, iv 0, str []] fun b_764 => ?_
           refine jB (i := 6) ?_
           refine jI [] (Y_iTxAsk y_675 (by rw [hy_676]; exact hxl.mono (show 1048576 ≤ 500000000 by decide)) a_669 c_670 s 1048576 hO (by omega) (by rw [hy_676]; exact hoT) (fun h_ => growX h_) (fun h_ => growTX h_) 200000000 (fun h_ => growBX h_) c hcc) (hpre := fun w hw => ⟨hw.see (i := 3) rfl, hw.seeRows 2 rfl, hw.hex hlow hpre.2.2⟩) ?_
           rintro _ _ ⟨z_770, A_771, e_772, ha_773, hb_774, rfl, rfl⟩
           refine go ?_
           refine jB (i := 12) ?_
           refine jf 2 (xc z_770) ?_
           refine jB (i := 13) ?_
           refine jS 1 [iv A_771.code, iv A_771.n, str A_771.text] ?_
           exact jh [1, 1, 0, 0, 0, 0, 0, 0, 0, 0, 0, 0, 0] ⟨a_669, c_670, y_675, z_770, A_771, b_749, b_764, hy_676, e_772, ha_773, hb_774, EL.go, rfl⟩
         refine JX.al [iv 0, iv 0, str []] fun b_775 => ?_
         refine jB (i := 5) ?_
         refine jI [] (N_toCall c) ?_
         rintro _ _ ⟨rfl, rfl⟩
         refine jB (i := 6) ?_
         refine jI [] (Y_iTxAsk y_675 (by rw [hy_676]; exact hxl.mono (show 1048576 ≤ 500000000 by decide)) a_669 c_670 s 1048576 hO (by omega) (by rw [hy_676]; exact hoT) (fun h_ => growX h_) (fun h_ => growTX h_) 200000000 (fun h_ => growBX h_) c hcc) (hpre := fun w hw => ⟨hw.see (i := 3) rfl, hw.seeRows 2 rfl, hw.hex hlow hpre.2.2⟩) ?_
         rintro _ _ ⟨z_781, A_782, e_783, ha_784, hb_785, rfl, rfl⟩
         refine go ?_
         refine jB (i := 12) ?_
         refine jf 2 (xc z_781) ?_
         refine jB (i := 13) ?_
         refine jS 1 [iv A_782.code, iv A_782.n, str A_782.text] ?_
         exact jh [1, 1, 0, 0, 0, 0, 0, 0, 0, 0, 0, 0, 0] ⟨a_669, c_670, y_675, z_781, A_782, b_749, b_775, hy_676, e_783, ha_784, hb_785, EL.go, rfl⟩
       refine JX.al [iv 0, iv 0, str []] fun b_786 => ?_
       refine jZ (i := 5) (j := 10) (by kernel_rfl) ?_ ?_
       · refine jI [] (N_toCall c) ?_
         rintro _ _ ⟨rfl, rfl⟩
         refine jZ (i := 6) (j := 10) (by kernel_rfl) ?_ ?_
         · refine jI [] (Y_iTxAsk y_675 (by rw [hy_676]; exact hxl.mono (show 1048576 ≤ 500000000 by decide)) a_669 c_670 s 1048576 hO (by omega) (by rw [hy_676]; exact hoT) (fun h_ => growX h_) (fun h_ => growTX h_) 200000000 (fun h_ => growBX h_) c hcc) (hpre := fun w hw => ⟨hw.see (i := 2) rfl, hw.seeRows 1 rfl, hw.hex hlow hpre.2.2⟩) ?_
           rintro _ _ ⟨z_794, A_795, e_796, ha_797, hb_798, rfl, rfl⟩
           refine go ?_
           refine jB (i := 10) ?_
           refine JX.al xzc fun b_800 => ?_
           refine jB (i := 12) ?_
           refine jf 0 (xc z_794) ?_
           refine jB (i := 13) ?_
           refine jS 2 [iv A_795.code, iv A_795.n, str A_795.text] ?_
           exact jh [2, 0, 0, 0, 0, 0, 0, 0, 0, 0, 0, 0, 0] ⟨a_669, c_670, y_675, z_794, A_795, b_800, b_786, hy_676, e_796, ha_797, hb_798, EL.go, rfl⟩
         refine JX.al xzc fun b_801 => ?_
         refine jB (i := 6) ?_
         refine jI [] (Y_iTxAsk y_675 (by rw [hy_676]; exact hxl.mono (show 1048576 ≤ 500000000 by decide)) a_669 c_670 s 1048576 hO (by omega) (by rw [hy_676]; exact hoT) (fun h_ => growX h_) (fun h_ => growTX h_) 200000000 (fun h_ => growBX h_) c hcc) (hpre := fun w hw => ⟨hw.see (i := 3) rfl, hw.seeRows 2 rfl, hw.hex hlow hpre.2.2⟩) ?_
         rintro _ _ ⟨z_807, A_808, e_809, ha_810, hb_811, rfl, rfl⟩
         refine go ?_
         refine jB (i := 12) ?_
         refine jf 1 (xc z_807) ?_
         refine jB (i := 13) ?_
         refine jS 2 [iv A_808.code, iv A_808.n, str A_808.text] ?_
         exact jh [2, 1, 0, 0, 0, 0, 0, 0, 0, 0, 0, 0, 0] ⟨a_669, c_670, y_675, z_807, A_808, b_801, b_786, hy_676, e_809, ha_810, hb_811, EL.go, rfl⟩
       refine JX.al xzc fun b_812 => ?_
       refine jB (i := 5) ?_
       refine jI [] (N_toCall c) ?_
       rintro _ _ ⟨rfl, rfl⟩
       refine jB (i := 6) ?_
       refine jI [] (Y_iTxAsk y_675 (by rw [hy_676]; exact hxl.mono (show 1048576 ≤ 500000000 by decide)) a_669 c_670 s 1048576 hO (by omega) (by rw [hy_676]; exact hoT) (fun h_ => growX h_) (fun h_ => growTX h_) 200000000 (fun h_ => growBX h_) c hcc) (hpre := fun w hw => ⟨hw.see (i := 3) rfl, hw.seeRows 2 rfl, hw.hex hlow hpre.2.2⟩) ?_
       rintro _ _ ⟨z_818, A_819, e_820, ha_821, hb_822, rfl, rfl⟩
       refine go ?_
       refine jB (i := 12) ?_
       refine jf 1 (xc z_818) ?_
       refine jB (i := 13) ?_
       refine jS 2 [iv A_819.code, iv A_819.n, str A_819.text] ?_
       exact jh [2, 1, 0, 0, 0, 0, 0, 0, 0, 0, 0, 0, 0] ⟨a_669, c_670, y_675, z_818, A_819, b_812, b_786, hy_676, e_820, ha_821, hb_822, EL.go, rfl⟩
     · refine JX.al xzc fun b_823 => ?_
       refine jZ (i := 3) (j := 11) (by kernel_rfl) ?_ ?_
       · refine jI [] (C_toTx p hxl) (hpre := fun w hw => hw.seeOutAE hpre.2.1 nMA) ?_
         rintro _ _ ⟨y_827, hy_828, rfl, rfl⟩
         refine jZ (i := 5) (j := 11) (by kernel_rfl) ?_ ?_
         · refine jI [] (N_toCall c) ?_
           rintro _ _ ⟨rfl, rfl⟩
           refine jZ (i := 6) (j := 11) (by kernel_rfl) ?_ ?_
           · refine jI [] (Y_iTxAsk y_827 (by rw [hy_828]; exact hxl.mono (show 1048576 ≤ 500000000 by decide)) a_669 c_670 s 1048576 hO (by omega) (by rw [hy_828]; exact hoT) (fun h_ => growX h_) (fun h_ => growTX h_) 200000000 (fun h_ => growBX h_) c hcc) (hpre := fun w hw => ⟨hw.see (i := 2) rfl, hw.seeRows 0 rfl, hw.hex hlow hpre.2.2⟩) ?_
             rintro _ _ ⟨z_836, A_837, e_838, ha_839, hb_840, rfl, rfl⟩
             refine go ?_
             refine jB (i := 11) ?_
             refine JX.al [iv 0, iv 0, str []] fun b_842 => ?_
             refine jB (i := 12) ?_
             refine jf 3 (xc z_836) ?_
             refine jB (i := 13) ?_
             refine jS 0 [iv A_837.code, iv A_837.n, str A_837.text] ?_
             exact jh [0, 2, 0, 0, 0, 0, 0, 0, 0, 0, 0, 0, 0] ⟨a_669, c_670, y_827, z_836, A_837, b_823, b_842, hy_828, e_838, ha_839, hb_840, EL.go, rfl⟩
           refine JX.al [iv 0, iv 0, str []] fun b_843 => ?_
           refine jB (i := 6) ?_
           refine jI [] (Y_iTxAsk y_827 (by rw [hy_828]; exact hxl.mono (show 1048576 ≤ 500000000 by decide)) a_669 c_670 s 1048576 hO (by omega) (by rw [hy_828]; exact hoT) (fun h_ => growX h_) (fun h_ => growTX h_) 200000000 (fun h_ => growBX h_) c hcc) (hpre := fun w hw => ⟨hw.see (i := 3) rfl, hw.seeRows 1 rfl, hw.hex hlow hpre.2.2⟩) ?_
           rintro _ _ ⟨z_849, A_850, e_851, ha_852, hb_853, rfl, rfl⟩
           refine go ?_
           refine jB (i := 12) ?_
           refine jf 3 (xc z_849) ?_
           refine jB (i := 13) ?_
           refine jS 1 [iv A_850.code, iv A_850.n, str A_850.text] ?_
           exact jh [1, 2, 0, 0, 0, 0, 0, 0, 0, 0, 0, 0, 0] ⟨a_669, c_670, y_827, z_849, A_850, b_823, b_843, hy_828, e_851, ha_852, hb_853, EL.go, rfl⟩
         refine JX.al [iv 0, iv 0, str []] fun b_854 => ?_
         refine jB (i := 5) ?_
         refine jI [] (N_toCall c) ?_
         rintro _ _ ⟨rfl, rfl⟩
         refine jB (i := 6) ?_
         refine jI [] (Y_iTxAsk y_827 (by rw [hy_828]; exact hxl.mono (show 1048576 ≤ 500000000 by decide)) a_669 c_670 s 1048576 hO (by omega) (by rw [hy_828]; exact hoT) (fun h_ => growX h_) (fun h_ => growTX h_) 200000000 (fun h_ => growBX h_) c hcc) (hpre := fun w hw => ⟨hw.see (i := 3) rfl, hw.seeRows 1 rfl, hw.hex hlow hpre.2.2⟩) ?_
         rintro _ _ ⟨z_860, A_861, e_862, ha_863, hb_864, rfl, rfl⟩
         refine go ?_
         refine jB (i := 12) ?_
         refine jf 3 (xc z_860) ?_
         refine jB (i := 13) ?_
         refine jS 1 [iv A_861.code, iv A_861.n, str A_861.text] ?_
         exact jh [1, 2, 0, 0, 0, 0, 0, 0, 0, 0, 0, 0, 0] ⟨a_669, c_670, y_827, z_860, A_861, b_823, b_854, hy_828, e_862, ha_863, hb_864, EL.go, rfl⟩
       refine JX.al [iv 0, iv 0, str []] fun b_865 => ?_
       refine jB (i := 3) ?_
       refine jI [] (C_toTx p hxl) (hpre := fun w hw => hw.seeOutAE hpre.2.1 nMA) ?_
       rintro _ _ ⟨y_868, hy_869, rfl, rfl⟩
       refine jB (i := 5) ?_
       refine jI [] (N_toCall c) ?_
       rintro _ _ ⟨rfl, rfl⟩
       refine jB (i := 6) ?_
       refine jI [] (Y_iTxAsk y_868 (by rw [hy_869]; exact hxl.mono (show 1048576 ≤ 500000000 by decide)) a_669 c_670 s 1048576 hO (by omega) (by rw [hy_869]; exact hoT) (fun h_ => growX h_) (fun h_ => growTX h_) 200000000 (fun h_ => growBX h_) c hcc) (hpre := fun w hw => ⟨hw.see (i := 3) rfl, hw.seeRows 0 rfl, hw.hex hlow hpre.2.2⟩) ?_
       rintro _ _ ⟨z_875, A_876, e_877, ha_878, hb_879, rfl, rfl⟩
       refine go ?_
       refine jB (i := 12) ?_
       refine jf 3 (xc z_875) ?_
       refine jB (i := 13) ?_
       refine jS 2 [iv A_876.code, iv A_876.n, str A_876.text] ?_
       exact jh [2, 2, 0, 0, 0, 0, 0, 0, 0, 0, 0, 0, 0] ⟨a_669, c_670, y_868, z_875, A_876, b_823, b_865, hy_869, e_877, ha_878, hb_879, EL.go, rfl⟩
     refine JX.al [iv 0, iv 0, str []] fun b_880 => ?_
     refine jZ (i := 3) (j := 10) (by kernel_rfl) ?_ ?_
     · refine jI [] (C_toTx p hxl) (hpre := fun w hw => hw.seeOutAE hpre.2.1 nMA) ?_
       rintro _ _ ⟨y_884, hy_885, rfl, rfl⟩
       refine jZ (i := 5) (j := 10) (by kernel_rfl) ?_ ?_
       · refine jI [] (N_toCall c) ?_
         rintro _ _ ⟨rfl, rfl⟩
         refine jZ (i := 6) (j := 10) (by kernel_rfl) ?_ ?_
         · refine jI [] (Y_iTxAsk y_884 (by rw [hy_885]; exact hxl.mono (show 1048576 ≤ 500000000 by decide)) a_669 c_670 s 1048576 hO (by omega) (by rw [hy_885]; exact hoT) (fun h_ => growX h_) (fun h_ => growTX h_) 200000000 (fun h_ => growBX h_) c hcc) (hpre := fun w hw => ⟨hw.see (i := 2) rfl, hw.seeRows 0 rfl, hw.hex hlow hpre.2.2⟩) ?_
           rintro _ _ ⟨z_893, A_894, e_895, ha_896, hb_897, rfl, rfl⟩
           refine go ?_
           refine jB (i := 10) ?_
           refine JX.al xzc fun b_899 => ?_
           refine jB (i := 12) ?_
           refine jf 0 (xc z_893) ?_
           refine jB (i := 13) ?_
           refine jS 3 [iv A_894.code, iv A_894.n, str A_894.text] ?_
           exact jh [3, 0, 0, 0, 0, 0, 0, 0, 0, 0, 0, 0, 0] ⟨a_669, c_670, y_884, z_893, A_894, b_899, b_880, hy_885, e_895, ha_896, hb_897, EL.go, rfl⟩
         refine JX.al xzc fun b_900 => ?_
         refine jB (i := 6) ?_
         refine jI [] (Y_iTxAsk y_884 (by rw [hy_885]; exact hxl.mono (show 1048576 ≤ 500000000 by decide)) a_669 c_670 s 1048576 hO (by omega) (by rw [hy_885]; exact hoT) (fun h_ => growX h_) (fun h_ => growTX h_) 200000000 (fun h_ => growBX h_) c hcc) (hpre := fun w hw => ⟨hw.see (i := 3) rfl, hw.seeRows 1 rfl, hw.hex hlow hpre.2.2⟩) ?_
         rintro _ _ ⟨z_906, A_907, e_908, ha_909, hb_910, rfl, rfl⟩
         refine go ?_
         refine jB (i := 12) ?_
         refine jf 1 (xc z_906) ?_
         refine jB (i := 13) ?_
         refine jS 3 [iv A_907.code, iv A_907.n, str A_907.text] ?_
         exact jh [3, 1, 0, 0, 0, 0, 0, 0, 0, 0, 0, 0, 0] ⟨a_669, c_670, y_884, z_906, A_907, b_900, b_880, hy_885, e_908, ha_909, hb_910, EL.go, rfl⟩
       refine JX.al xzc fun b_911 => ?_
       refine jB (i := 5) ?_
       refine jI [] (N_toCall c) ?_
       rintro _ _ ⟨rfl, rfl⟩
       refine jB (i := 6) ?_
       refine jI [] (Y_iTxAsk y_884 (by rw [hy_885]; exact hxl.mono (show 1048576 ≤ 500000000 by decide)) a_669 c_670 s 1048576 hO (by omega) (by rw [hy_885]; exact hoT) (fun h_ => growX h_) (fun h_ => growTX h_) 200000000 (fun h_ => growBX h_) c hcc) (hpre := fun w hw => ⟨hw.see (i := 3) rfl, hw.seeRows 1 rfl, hw.hex hlow hpre.2.2⟩) ?_
       rintro _ _ ⟨z_917, A_918, e_919, ha_920, hb_921, rfl, rfl⟩
       refine go ?_
       refine jB (i := 12) ?_
       refine jf 1 (xc z_917) ?_
       refine jB (i := 13) ?_
       refine jS 3 [iv A_918.code, iv A_918.n, str A_918.text] ?_
       exact jh [3, 1, 0, 0, 0, 0, 0, 0, 0, 0, 0, 0, 0] ⟨a_669, c_670, y_884, z_917, A_918, b_911, b_880, hy_885, e_919, ha_920, hb_921, EL.go, rfl⟩
     refine JX.al xzc fun b_922 => ?_
     refine jB (i := 3) ?_
     refine jI [] (C_toTx p hxl) (hpre := fun w hw => hw.seeOutAE hpre.2.1 nMA) ?_
     rintro _ _ ⟨y_925, hy_926, rfl, rfl⟩
     refine jB (i := 5) ?_
     refine jI [] (N_toCall c) ?_
     rintro _ _ ⟨rfl, rfl⟩
     refine jB (i := 6) ?_
     refine jI [] (Y_iTxAsk y_925 (by rw [hy_926]; exact hxl.mono (show 1048576 ≤ 500000000 by decide)) a_669 c_670 s 1048576 hO (by omega) (by rw [hy_926]; exact hoT) (fun h_ => growX h_) (fun h_ => growTX h_) 200000000 (fun h_ => growBX h_) c hcc) (hpre := fun w hw => ⟨hw.see (i := 3) rfl, hw.seeRows 0 rfl, hw.hex hlow hpre.2.2⟩) ?_
     rintro _ _ ⟨z_932, A_933, e_934, ha_935, hb_936, rfl, rfl⟩
     refine go ?_
     refine jB (i := 12) ?_
     refine jf 2 (xc z_932) ?_
     refine jB (i := 13) ?_
     refine jS 3 [iv A_933.code, iv A_933.n, str A_933.text] ?_
     exact jh [3, 2, 0, 0, 0, 0, 0, 0, 0, 0, 0, 0, 0] ⟨a_669, c_670, y_925, z_932, A_933, b_922, b_880, hy_926, e_934, ha_935, hb_936, EL.go, rfl⟩
   · refine JX.al xzc fun b_937 => ?_
     refine jZ (i := 1) (j := 11) (by kernel_rfl) ?_ ?_
     · refine jI [] (E_toCellS sa sc s (by omega)) (hpre := fun w hw => hw.seeOutE hs_sa nM) ?_
       rintro _ _ ⟨a_941, c_942, rfl, rfl⟩
       refine jZ (i := 3) (j := 11) (by kernel_rfl) ?_ ?_
       · refine jI [] (C_toTx p hxl) (hpre := fun w hw => hw.seeOutAE hpre.2.1 nMA) ?_
         rintro _ _ ⟨y_946, hy_947, rfl, rfl⟩
         refine jZ (i := 5) (j := 11) (by kernel_rfl) ?_ ?_
         · refine jI [] (N_toCall c) ?_
           rintro _ _ ⟨rfl, rfl⟩
           refine jZ (i := 6) (j := 11) (by kernel_rfl) ?_ ?_
           · refine jI [] (Y_iTxAsk y_946 (by rw [hy_947]; exact hxl.mono (show 1048576 ≤ 500000000 by decide)) a_941 c_942 s 1048576 hO (by omega) (by rw [hy_947]; exact hoT) (fun h_ => growX h_) (fun h_ => growTX h_) 200000000 (fun h_ => growBX h_) c hcc) (hpre := fun w hw => ⟨hw.see (i := 1) rfl, hw.seeRows 0 rfl, hw.hex hlow hpre.2.2⟩) ?_
             rintro _ _ ⟨z_955, A_956, e_957, ha_958, hb_959, rfl, rfl⟩
             refine go ?_
             refine jB (i := 11) ?_
             refine JX.al [iv 0, iv 0, str []] fun b_961 => ?_
             refine jB (i := 12) ?_
             refine jf 4 (xc z_955) ?_
             refine jB (i := 13) ?_
             refine jS 0 [iv A_956.code, iv A_956.n, str A_956.text] ?_
             exact jh [0, 3, 0, 0, 0, 0, 0, 0, 0, 0, 0, 0, 0] ⟨a_941, c_942, y_946, z_955, A_956, b_937, b_961, hy_947, e_957, ha_958, hb_959, EL.go, rfl⟩
           refine JX.al [iv 0, iv 0, str []] fun b_962 => ?_
           refine jB (i := 6) ?_
           refine jI [] (Y_iTxAsk y_946 (by rw [hy_947]; exact hxl.mono (show 1048576 ≤ 500000000 by decide)) a_941 c_942 s 1048576 hO (by omega) (by rw [hy_947]; exact hoT) (fun h_ => growX h_) (fun h_ => growTX h_) 200000000 (fun h_ => growBX h_) c hcc) (hpre := fun w hw => ⟨hw.see (i := 2) rfl, hw.seeRows 1 rfl, hw.hex hlow hpre.2.2⟩) ?_
           rintro _ _ ⟨z_968, A_969, e_970, ha_971, hb_972, rfl, rfl⟩
           refine go ?_
           refine jB (i := 12) ?_
           refine jf 4 (xc z_968) ?_
           refine jB (i := 13) ?_
           refine jS 1 [iv A_969.code, iv A_969.n, str A_969.text] ?_
           exact jh [1, 3, 0, 0, 0, 0, 0, 0, 0, 0, 0, 0, 0] ⟨a_941, c_942, y_946, z_968, A_969, b_937, b_962, hy_947, e_970, ha_971, hb_972, EL.go, rfl⟩
         refine JX.al [iv 0, iv 0, str []] fun b_973 => ?_
         refine jB (i := 5) ?_
         refine jI [] (N_toCall c) ?_
         rintro _ _ ⟨rfl, rfl⟩
         refine jB (i := 6) ?_
         refine jI [] (Y_iTxAsk y_946 (by rw [hy_947]; exact hxl.mono (show 1048576 ≤ 500000000 by decide)) a_941 c_942 s 1048576 hO (by omega) (by rw [hy_947]; exact hoT) (fun h_ => growX h_) (fun h_ => growTX h_) 200000000 (fun h_ => growBX h_) c hcc) (hpre := fun w hw => ⟨hw.see (i := 2) rfl, hw.seeRows 1 rfl, hw.hex hlow hpre.2.2⟩) ?_
         rintro _ _ ⟨z_979, A_980, e_981, ha_982, hb_983, rfl, rfl⟩
         refine go ?_
         refine jB (i := 12) ?_
         refine jf 4 (xc z_979) ?_
         refine jB (i := 13) ?_
         refine jS 1 [iv A_980.code, iv A_980.n, str A_980.text] ?_
         exact jh [1, 3, 0, 0, 0, 0, 0, 0, 0, 0, 0, 0, 0] ⟨a_941, c_942, y_946, z_979, A_980, b_937, b_973, hy_947, e_981, ha_982, hb_983, EL.go, rfl⟩
       refine JX.al [iv 0, iv 0, str []] fun b_984 => ?_
       refine jB (i := 3) ?_
       refine jI [] (C_toTx p hxl) (hpre := fun w hw => hw.seeOutAE hpre.2.1 nMA) ?_
       rintro _ _ ⟨y_987, hy_988, rfl, rfl⟩
       refine jB (i := 5) ?_
       refine jI [] (N_toCall c) ?_
       rintro _ _ ⟨rfl, rfl⟩
       refine jB (i := 6) ?_
       refine jI [] (Y_iTxAsk y_987 (by rw [hy_988]; exact hxl.mono (show 1048576 ≤ 500000000 by decide)) a_941 c_942 s 1048576 hO (by omega) (by rw [hy_988]; exact hoT) (fun h_ => growX h_) (fun h_ => growTX h_) 200000000 (fun h_ => growBX h_) c hcc) (hpre := fun w hw => ⟨hw.see (i := 2) rfl, hw.seeRows 0 rfl, hw.hex hlow hpre.2.2⟩) ?_
       rintro _ _ ⟨z_994, A_995, e_996, ha_997, hb_998, rfl, rfl⟩
       refine go ?_
       refine jB (i := 12) ?_
       refine jf 4 (xc z_994) ?_
       refine jB (i := 13) ?_
       refine jS 2 [iv A_995.code, iv A_995.n, str A_995.text] ?_
       exact jh [2, 3, 0, 0, 0, 0, 0, 0, 0, 0, 0, 0, 0] ⟨a_941, c_942, y_987, z_994, A_995, b_937, b_984, hy_988, e_996, ha_997, hb_998, EL.go, rfl⟩
     refine JX.al [iv 0, iv 0, str []] fun b_999 => ?_
     refine jB (i := 1) ?_
     refine jI [] (E_toCellS sa sc s (by omega)) (hpre := fun w hw => hw.seeOutE hs_sa nM) ?_
     rintro _ _ ⟨a_1002, c_1003, rfl, rfl⟩
     refine jB (i := 3) ?_
     refine jI [] (C_toTx p hxl) (hpre := fun w hw => hw.seeOutAE hpre.2.1 nMA) ?_
     rintro _ _ ⟨y_1006, hy_1007, rfl, rfl⟩
     refine jB (i := 5) ?_
     refine jI [] (N_toCall c) ?_
     rintro _ _ ⟨rfl, rfl⟩
     refine jB (i := 6) ?_
     refine jI [] (Y_iTxAsk y_1006 (by rw [hy_1007]; exact hxl.mono (show 1048576 ≤ 500000000 by decide)) a_1002 c_1003 s 1048576 hO (by omega) (by rw [hy_1007]; exact hoT) (fun h_ => growX h_) (fun h_ => growTX h_) 200000000 (fun h_ => growBX h_) c hcc) (hpre := fun w hw => ⟨hw.see (i := 1) rfl, hw.seeRows 0 rfl, hw.hex hlow hpre.2.2⟩) ?_
     rintro _ _ ⟨z_1013, A_1014, e_1015, ha_1016, hb_1017, rfl, rfl⟩
     refine go ?_
     refine jB (i := 12) ?_
     refine jf 4 (xc z_1013) ?_
     refine jB (i := 13) ?_
     refine jS 3 [iv A_1014.code, iv A_1014.n, str A_1014.text] ?_
     exact jh [3, 3, 0, 0, 0, 0, 0, 0, 0, 0, 0, 0, 0] ⟨a_1002, c_1003, y_1006, z_1013, A_1014, b_937, b_999, hy_1007, e_1015, ha_1016, hb_1017, EL.go, rfl⟩
   refine JX.al [iv 0, iv 0, str []] fun b_1018 => ?_
   refine jZ (i := 1) (j := 10) (by kernel_rfl) ?_ ?_
   · refine jI [] (E_toCellS sa sc s (by omega)) (hpre := fun w hw => hw.seeOutE hs_sa nM) ?_
     rintro _ _ ⟨a_1022, c_1023, rfl, rfl⟩
     refine jZ (i := 3) (j := 10) (by kernel_rfl) ?_ ?_
     · refine jI [] (C_toTx p hxl) (hpre := fun w hw => hw.seeOutAE hpre.2.1 nMA) ?_
       rintro _ _ ⟨y_1027, hy_1028, rfl, rfl⟩
       refine jZ (i := 5) (j := 10) (by kernel_rfl) ?_ ?_
       · refine jI [] (N_toCall c) ?_
         rintro _ _ ⟨rfl, rfl⟩
         refine jZ (i := 6) (j := 10) (by kernel_rfl) ?_ ?_
         · refine jI [] (Y_iTxAsk y_1027 (by rw [hy_1028]; exact hxl.mono (show 1048576 ≤ 500000000 by decide)) a_1022 c_1023 s 1048576 hO (by omega) (by rw [hy_1028]; exact hoT) (fun h_ => growX h_) (fun h_ => growTX h_) 200000000 (fun h_ => growBX h_) c hcc) (hpre := fun w hw => ⟨hw.see (i := 1) rfl, hw.seeRows 0 rfl, hw.hex hlow hpre.2.2⟩) ?_
           rintro _ _ ⟨z_1036, A_1037, e_1038, ha_1039, hb_1040, rfl, rfl⟩
           refine go ?_
           refine jB (i := 10) ?_
           refine JX.al xzc fun b_1042 => ?_
           refine jB (i := 12) ?_
           refine jf 0 (xc z_1036) ?_
           refine jB (i := 13) ?_
           refine jS 4 [iv A_1037.code, iv A_1037.n, str A_1037.text] ?_
           exact jh [4, 0, 0, 0, 0, 0, 0, 0, 0, 0, 0, 0, 0] ⟨a_1022, c_1023, y_1027, z_1036, A_1037, b_1042, b_1018, hy_1028, e_1038, ha_1039, hb_1040, EL.go, rfl⟩
         refine JX.al xzc fun b_1043 => ?_
         refine jB (i := 6) ?_
         refine jI [] (Y_iTxAsk y_1027 (by rw [hy_1028]; exact hxl.mono (show 1048576 ≤ 500000000 by decide)) a_1022 c_1023 s 1048576 hO (by omega) (by rw [hy_1028]; exact hoT) (fun h_ => growX h_) (fun h_ => growTX h_) 200000000 (fun h_ => growBX h_) c hcc) (hpre := fun w hw => ⟨hw.see (i := 2) rfl, hw.seeRows 1 rfl, hw.hex hlow hpre.2.2⟩) ?_
         rintro _ _ ⟨z_1049, A_1050, e_1051, ha_1052, hb_1053, rfl, rfl⟩
         refine go ?_
         refine jB (i := 12) ?_
         refine jf 1 (xc z_1049) ?_
         refine jB (i := 13) ?_
         refine jS 4 [iv A_1050.code, iv A_1050.n, str A_1050.text] ?_
         exact jh [4, 1, 0, 0, 0, 0, 0, 0, 0, 0, 0, 0, 0] ⟨a_1022, c_1023, y_1027, z_1049, A_1050, b_1043, b_1018, hy_1028, e_1051, ha_1052, hb_1053, EL.go, rfl⟩
       refine JX.al xzc fun b_1054 => ?_
       refine jB (i := 5) ?_
       refine jI [] (N_toCall c) ?_
       rintro _ _ ⟨rfl, rfl⟩
       refine jB (i := 6) ?_
       refine jI [] (Y_iTxAsk y_1027 (by rw [hy_1028]; exact hxl.mono (show 1048576 ≤ 500000000 by decide)) a_1022 c_1023 s 1048576 hO (by omega) (by rw [hy_1028]; exact hoT) (fun h_ => growX h_) (fun h_ => growTX h_) 200000000 (fun h_ => growBX h_) c hcc) (hpre := fun w hw => ⟨hw.see (i := 2) rfl, hw.seeRows 1 rfl, hw.hex hlow hpre.2.2⟩) ?_
       rintro _ _ ⟨z_1060, A_1061, e_1062, ha_1063, hb_1064, rfl, rfl⟩
       refine go ?_
       refine jB (i := 12) ?_
       refine jf 1 (xc z_1060) ?_
       refine jB (i := 13) ?_
       refine jS 4 [iv A_1061.code, iv A_1061.n, str A_1061.text] ?_
       exact jh [4, 1, 0, 0, 0, 0, 0, 0, 0, 0, 0, 0, 0] ⟨a_1022, c_1023, y_1027, z_1060, A_1061, b_1054, b_1018, hy_1028, e_1062, ha_1063, hb_1064, EL.go, rfl⟩
     refine JX.al xzc fun b_1065 => ?_
     refine jB (i := 3) ?_
     refine jI [] (C_toTx p hxl) (hpre := fun w hw => hw.seeOutAE hpre.2.1 nMA) ?_
     rintro _ _ ⟨y_1068, hy_1069, rfl, rfl⟩
     refine jB (i := 5) ?_
     refine jI [] (N_toCall c) ?_
     rintro _ _ ⟨rfl, rfl⟩
     refine jB (i := 6) ?_
     refine jI [] (Y_iTxAsk y_1068 (by rw [hy_1069]; exact hxl.mono (show 1048576 ≤ 500000000 by decide)) a_1022 c_1023 s 1048576 hO (by omega) (by rw [hy_1069]; exact hoT) (fun h_ => growX h_) (fun h_ => growTX h_) 200000000 (fun h_ => growBX h_) c hcc) (hpre := fun w hw => ⟨hw.see (i := 2) rfl, hw.seeRows 0 rfl, hw.hex hlow hpre.2.2⟩) ?_
     rintro _ _ ⟨z_1075, A_1076, e_1077, ha_1078, hb_1079, rfl, rfl⟩
     refine go ?_
     refine jB (i := 12) ?_
     refine jf 2 (xc z_1075) ?_
     refine jB (i := 13) ?_
     refine jS 4 [iv A_1076.code, iv A_1076.n, str A_1076.text] ?_
     exact jh [4, 2, 0, 0, 0, 0, 0, 0, 0, 0, 0, 0, 0] ⟨a_1022, c_1023, y_1068, z_1075, A_1076, b_1065, b_1018, hy_1069, e_1077, ha_1078, hb_1079, EL.go, rfl⟩
   refine JX.al xzc fun b_1080 => ?_
   refine jB (i := 1) ?_
   refine jI [] (E_toCellS sa sc s (by omega)) (hpre := fun w hw => hw.seeOutE hs_sa nM) ?_
   rintro _ _ ⟨a_1083, c_1084, rfl, rfl⟩
   refine jB (i := 3) ?_
   refine jI [] (C_toTx p hxl) (hpre := fun w hw => hw.seeOutAE hpre.2.1 nMA) ?_
   rintro _ _ ⟨y_1087, hy_1088, rfl, rfl⟩
   refine jB (i := 5) ?_
   refine jI [] (N_toCall c) ?_
   rintro _ _ ⟨rfl, rfl⟩
   refine jB (i := 6) ?_
   refine jI [] (Y_iTxAsk y_1087 (by rw [hy_1088]; exact hxl.mono (show 1048576 ≤ 500000000 by decide)) a_1083 c_1084 s 1048576 hO (by omega) (by rw [hy_1088]; exact hoT) (fun h_ => growX h_) (fun h_ => growTX h_) 200000000 (fun h_ => growBX h_) c hcc) (hpre := fun w hw => ⟨hw.see (i := 1) rfl, hw.seeRows 0 rfl, hw.hex hlow hpre.2.2⟩) ?_
   rintro _ _ ⟨z_1094, A_1095, e_1096, ha_1097, hb_1098, rfl, rfl⟩
   refine go ?_
   refine jB (i := 12) ?_
   refine jf 3 (xc z_1094) ?_
   refine jB (i := 13) ?_
   refine jS 4 [iv A_1095.code, iv A_1095.n, str A_1095.text] ?_
   exact jh [4, 3, 0, 0, 0, 0, 0, 0, 0, 0, 0, 0, 0] ⟨a_1083, c_1084, y_1087, z_1094, A_1095, b_1080, b_1018, hy_1088, e_1096, ha_1097, hb_1098, EL.go, rfl⟩
 rintro _ _ ⟨a_650, c_651, y_652, z_654, A_655, b_659, b_660, hy_653, e_656, ha_657, hb_658, ⟨_, rfl⟩, rfl⟩
 first | refine JQ.pk [0, 0, 0, 2, 3, 3, 3, 3] ?_ | refine JC.pk [0, 0, 0, 2, 3, 3, 3, 3] ?_ | refine JL.pk [0, 0, 0, 2, 3, 3, 3, 3] ?_
 refine jT <| jc ?_
 refine JC.nz [(6, .bool false), (8, .pointer (some ⟨b_17, 0, none⟩)), (9, .pointer (some ⟨b_18, 0, none⟩)), (12, .pointer (some ⟨b_476, 0, none⟩)), (15, iv ((1 + 6 * z_471.t.calls.length + 3 * z_471.t.ans.length + z_471.t.rd.length + z_471.t.wr.length + 1 * z_471.t.marks.length : Nat) : Int)), (16, iv ((heldN (1 + 6 * z_471.t.calls.length + 3 * z_471.t.ans.length + z_471.t.rd.length + z_471.t.wr.length + 1 * z_471.t.marks.length) : Nat) : Int)), (17, .pointer (some ⟨b_659, 0, none⟩)), (18, .pointer (some ⟨b_660, 0, none⟩))] [bk b_660 39 [iv A_655.code, iv A_655.n, str A_655.text], bk b_659 35 (xc z_654), Res.rows (rdsX z_654), Res.rows (rdsX (mkY z_471 1)), bk b_476 35 (xc z_471), bk b_18 39 [iv A_13.code, iv A_13.n, str A_13.text], bk b_17 35 (xc z_12), Res.rows (rdsX z_12)] (fun _ => ?_) 
 refine go ?_
 have hzl_1099 := ask_lim (by rw [hy_653]; exact hxl) e_656 hb_658
 obtain ⟨hb_1100, hb_1101, hb_1102, hb_1103, hb_1104⟩ := id hzl_1099
 obtain ⟨hf_1105, hf_1106, hf_1107⟩ := ask_few e_656
 obtain ⟨hzt_1108, rfl⟩ := ask_same hy_11 hy_653 e_14 (ask_A e_656)
 refine go ?_
 refine jN [] (C_eqTx z_654 z_12 (hzl_1099.mono (show 500000000 ≤ 1000000000 by decide))) (hpre := fun w hw => ⟨hw.seeRows 2 rfl, hw.seeRows 7 rfl⟩) ?_
 refine go ?_
 have h_1109 : z_654.t = z_12.t := (by simp only [hy_11, hy_469, hy_640, hy_653, hzt_633, hzt_1108])
 refine go ?_
 refine jW rfl rfl rfl (cB (cN (dT h_1109))) (jO [] Tryz.call90 rfl (N_eqAnswer A_13) rfl (fun _ _ => trivial)) ?_
 rintro _ _ ⟨_, ⟨rfl, rfl⟩, rfl⟩
 refine gQ ?_
 refine jb ?_
 first | refine JQ.pk [3, 3] ?_ | refine JC.pk [3, 3] ?_ | refine JL.pk [3, 3] ?_
 refine go ?_
 refine jN [] (Y_heldK z_471 1 (by omega) (by omega)) (hpre := fun w hw => hw.seeRows 0 rfl) ?_
 refine go ?_
 exact jJ [] ⟨rfl, rfl⟩
end Go.Proofs.YthlfmbbaomdciaaGreatDoor
