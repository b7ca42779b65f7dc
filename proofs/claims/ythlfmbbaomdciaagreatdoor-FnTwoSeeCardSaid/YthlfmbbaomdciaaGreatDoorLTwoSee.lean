/-
Texts of the walk, joined: what each one proves stands at its theorems.
-/
import Derived.Test.YthlfmbbaomdciaaGreatDoorXTwoSeeDatRe
set_option linter.unusedSimpArgs false
set_option linter.unusedVariables false
set_option linter.unnecessarySimpa false
set_option maxHeartbeats 40000000
set_option maxRecDepth 4000
namespace Go.Proofs.YthlfmbbaomdciaaGreatDoor
open Go Go.RowKit
theorem underEA : Tryz.prog.underlying 39 = some (.struct (Tryz.prog.fieldsOf 39)) := by kernel_rfl
theorem PO.eqlA {n : Nat} {e : Env} {d : Option Tmp} {ty : TypeId} {pos : String} {aft : Array Edge} {gd : Option (Nat × Bool)} {x y : Operand} {u : TypeId} (a b : AN) (hx : rd n e x = .agg #[.int .i64 a.code, .int .i64 a.n, str a.text]) (hy : rd n e y = .agg #[.int .i64 b.code, .int .i64 b.n, str b.text]) : PO Tryz.prog n e ⟨d, .binOp .eql 39 x y u, ty, pos, aft, gd⟩ (.bool (decide (a = b))) := fun w => by
 have he : (Op.equalIn 10000 39 (.agg #[.int .i64 a.code, .int .i64 a.n, str a.text]) (.agg #[.int .i64 b.code, .int .i64 b.n, str b.text])).run Tryz.prog w = .ok (decide (a = b)) w := by
   rw [run_equalIn_struct w 9999 39 _ _ underEA Tryz.stoodInHeld39]
   rw [show (Tryz.prog.fieldsOf 39).toList = [⟨ "Code", 3, 0, false, "", "", 0⟩, ⟨ "N", 3, 1, false, "", "", 8⟩, ⟨ "Text", 9, 2, false, "", "", 16⟩] by kernel_rfl]
   have e0 : (Op.equalIn 9999 3 (.int .i64 a.code) (.int .i64 b.code)).run Tryz.prog w = .ok (decide (a.code = b.code)) w := by
     rw [run_equalIn_int w 9998 3 _ _ _ _ kW]
     simp [beq_dec]
   have p0 : ∀ c : AN, (part 3 #[.int .i64 c.code, .int .i64 c.n, str c.text] 0).run Tryz.prog w = .ok (.int .i64 c.code) w := fun c => by simp [part, str]
   have e1 : (Op.equalIn 9999 3 (.int .i64 a.n) (.int .i64 b.n)).run Tryz.prog w = .ok (decide (a.n = b.n)) w := by
     rw [run_equalIn_int w 9998 3 _ _ _ _ kW]
     simp [beq_dec]
   have p1 : ∀ c : AN, (part 3 #[.int .i64 c.code, .int .i64 c.n, str c.text] 1).run Tryz.prog w = .ok (.int .i64 c.n) w := fun c => by simp [part, str]
   have e2 : (Op.equalIn 9999 9 (str a.text) (str b.text)).run Tryz.prog w = .ok (decide (a.text = b.text)) w := by
     simp only [str]
     rw [run_equalIn_string w 9998 9 _ _ kO]
     simp [beq_dec]
   have p2 : ∀ c : AN, (part 9 #[.int .i64 c.code, .int .i64 c.n, str c.text] 2).run Tryz.prog w = .ok (str c.text) w := fun c => by simp [part, str]
   simp only [Op.eqFields, Sem.run_bind, p0, p1, p2, e0, e1, e2, Result.andThen_ok, ne_eq, Sem.run_ite, Sem.run_pure]
   obtain ⟨a0, a1, a2⟩ := a
   obtain ⟨b0, b1, b2⟩ := b
   by_cases h0 : a0 = b0
   · skip
     by_cases h1 : a1 = b1
     · skip
       by_cases h2 : a2 = b2
       · skip
         simp [h0, h1, h2]
       · simp [h0, h1, h2]
     · simp [h0, h1]
   · simp [h0]
 simp only [execOp, hx, hy, Sem.run_bind, run_eqGuard_agg w .eql 39 x y _ _ Tryz.eqGuardType39, Result.andThen_ok, run_eql_struct, he, Sem.run_pure]
attribute [local irreducible] JL JC JQ JO LO PO JA JX Ct

set_option maxRecDepth 8000 in
theorem L_TwoSee (pa : Option Addr) (pc : Nat) (p : Str) :
   Ct Tryz.prog 3 [.slice pa p.length pc] [] (fun w => Sees w (.slice pa p.length pc) 1 p.length (p.map encB) ∧ HexOk w) (fun v A' => v = .bool true ∧ A' = []) := by
 refine Ct.introL Tryz.func3 rfl Tryz.ntmps3 (lb rfl) fun w0 hpre hlow => ?_
 have hs_pa : Sees w0 _ _ _ _ := hpre.1
 refine go ?_
 refine jN [] (N_big pa pc p) ?_
 refine go ?_
 by_cases h_1 : 1048576 < ((p.length : Nat) : Int)
 · refine go ?_
   exact jJ [] ⟨rfl, rfl⟩
 refine go ?_
 refine jA [] (D_DrawSerialRun pa pc p (by omega)) (hpre := fun w hw => hw.seeOut_ hs_pa nM) ?_
 rintro _ _ ⟨l_2a, l_2c, l_2, l_4a, l_4c, l_4, f_3, f_5, rfl, rfl⟩
 have hO1_l_2 := f_3.1.1
 refine go ?_
 refine jA [] (Y_iTxNew 1 1 1) ?_
 rintro _ _ ⟨z_7, hz_8, rfl, rfl⟩
 refine jG xzc fun b_9 => ?_
 refine jD 0 (xc z_7) ?_
 refine go ?_
 refine jA [] (Y_iTxNew 2 2 1) ?_
 rintro _ _ ⟨z_10, hz_11, rfl, rfl⟩
 refine jG xzc fun b_12 => ?_
 refine jD 0 (xc z_10) ?_
 refine go ?_
 obtain ⟨hok, hll⟩ := id f_5
 have hJ : xInv 0 z_10.t := by rw [hz_11]; exact (xInv.new (by decide))
 have hJn := hJ.n
 refine jL (fun k_ e_ L_ => ∃ i_ : Nat, ∃ z : TX, (i_ ≤ l_4.length) ∧ (xInv i_ z.t) ∧ EL e_ [(3, .slice l_2a l_2.length l_2c), (4, .slice l_4a l_4.length l_4c), (5, .pointer (some ⟨b_9, 0, none⟩)), (6, .pointer (some ⟨b_12, 0, none⟩)), (7, nv i_)] ∧ L_ = [bk b_12 35 (xc z_10), Res.rows (rdsX z_10), bk b_9 35 (xc z), Res.rows (rdsX z), rC l_2a l_2c l_2, Res.row (.slice l_4a l_4.length l_4c) 45 7 l_4.length (l_4.flatMap encP)] ∧ k_ = l_4.length - i_) _ ⟨0, z_7, by omega, (by rw [hz_8]; exact (xInv.new (by decide))), EL.go, rfl, rfl⟩ ?_
 rintro _ _ _ ⟨i_, z, hi, hI, ⟨_, rfl⟩, rfl, rfl⟩
 have hIn := hI.n
 refine go ?_
 by_cases h_13 : ((i_ : Nat) : Int) < ((l_4.length : Nat) : Int)
 · refine go ?_
   refine jA [] (Y_sTxView z_10 (hJ.lim (by decide)) l_2a l_2c l_2 10935 f_3.1 (by omega) (hJ.okT (by decide)) (Nat.le_trans (growV (by omega)) (by decide)) (Nat.le_trans (growTV (by omega)) (by decide))) (hpre := fun w hw => ⟨hw.see (i := 4) rfl, hw.seeRows 1 rfl⟩) ?_
   rintro _ _ ⟨a_14, c_15, v_16, e_17, hO_18, rfl, rfl⟩
   have hO1_v_16 : v_16.length ≤ 28000000 := Nat.le_trans (hO_18).1 (Nat.le_trans (growV (by omega)) (by decide))
   refine go ?_
   have hok_ := hok i_ (by omega)
   refine jH [3] 11 ?_
   refine go ?_
   refine JA.facts fun hst => ?_
   obtain ⟨hr_19, hr_19b, -⟩ := row_some 6 rfl (by omega) hst
   refine go ?_
   refine jB (i := 6) ?_
   refine ja rfl rfl (jm (LO.loadRK 6 (vs := [iv (l_4.getD i_ p0_).call.kind, str (l_4.getD i_ p0_).call.name, str (l_4.getD i_ p0_).call.to_, iv (l_4.getD i_ p0_).call.a, iv (l_4.getD i_ p0_).call.b, str (l_4.getD i_ p0_).call.text]) rfl rfl ki kX (flat_part encP_len p0_ l_4 i_ 1 6 (by omega) (by decide)) rfl (by decide))) ?_
   rintro _ _ ⟨rfl, rfl⟩
   refine ⟨all_go, ?_⟩
   refine jB (i := 7) ?_
   refine jI [] (Y_iTxAsk z (hI.lim (by omega)) l_2a l_2c l_2 10935 f_3.1 (by omega) (hI.okT (by omega)) (askG (fun h_ => growR (by omega))) (askT (fun h_ => growTR (by omega))) 20000000 (askB (fun h_ => growR (by omega))) (l_4.getD i_ p0_).call hok_.1) (hpre := fun w hw => ⟨hw.see (i := 5) rfl, hw.seeRows 4 rfl, hw.hex hlow hpre.2⟩) ?_
   rintro _ _ ⟨z_25, A_26, e_27, ha_28, hb_29, rfl, rfl⟩
   refine go ?_
   refine jB (i := 11) ?_
   refine jS 4 (xc z_25) ?_
   refine go ?_
   have hst := hI.step (by omega) hok_.1 e_27 hb_29
   refine go ?_
   refine jA [] (Y_iTxView z_10 (hJ.lim (by decide)) l_2a l_2c l_2 10935 f_3.1 (by omega) (hJ.okT (by decide)) (Nat.le_trans (growV (by omega)) (by decide)) (Nat.le_trans (growTV (by omega)) (by decide))) (hpre := fun w hw => ⟨hw.see (i := 6) rfl, hw.seeRows 3 rfl, hw.hex hlow hpre.2⟩) ?_
   rintro _ _ ⟨a_30, c_31, v_32, e_33, hO_34, rfl, rfl⟩
   have hO1_v_32 : v_32.length ≤ 28000000 := Nat.le_trans (hO_34).1 (Nat.le_trans (growV (by omega)) (by decide))
   refine go ?_
   refine jN [] (C_sameCells a_30 a_14 c_31 c_15 v_32 v_16 (by omega)) (hpre := fun w hw => ⟨hw.see (i := 0) rfl, hw.see (i := 2) rfl⟩) ?_
   refine go ?_
   have h_35 : v_32 = v_16 := (by rw [← e_33, ← e_17, viewA_new _ hz_11, viewL_new _ hz_11])
   refine go ?_
   exact jP [3, 3, 3, 1, 3, 3] ⟨i_ + 1, z_25, by omega, hst, EL.go, rfl, rfl⟩
 refine JC.condF (cB (dF h_13)) <| JC.exit <| JQ.thenExit <| JQ.thenExit <| JQ.blockE <| jT <| jc ?_
 refine JC.cut (fun e_ L_ => ∃ z_36 : TX, ∃ A_37 : AN, ∃ b_41 : Nat, ∃ b_42 : Nat, (TD.askV (viewA l_2 z_10.t) z_10.t (⟨5, [], [], 0, 0, []⟩ : CL) = (z_36.t, A_37)) ∧ ((0 ≤ A_37.code ∧ A_37.code ≤ 9) ∧ (-1 ≤ A_37.n ∧ A_37.n ≤ 1000000000) ∧ A_37.text.length ≤ 30000000000000) ∧ (z_36.t.rd.length ≤ z_10.t.rd.length + 20000000 ∧ z_36.t.wr.length ≤ z_10.t.wr.length + 20000000) ∧ EL e_ [(3, .slice l_2a l_2.length l_2c), (4, .slice l_4a l_4.length l_4c), (5, .pointer (some ⟨b_9, 0, none⟩)), (9, .pointer (some ⟨b_41, 0, none⟩)), (10, .pointer (some ⟨b_42, 0, none⟩))] ∧ L_ = [bk b_42 39 [iv A_37.code, iv A_37.n, str A_37.text], bk b_41 35 (xc z_36), Res.rows (rdsX z_36), bk b_12 35 (xc z_10), Res.rows (rdsX z_10), bk b_9 35 (xc z), Res.rows (rdsX z), rC l_2a l_2c l_2, Res.row (.slice l_4a l_4.length l_4c) 45 7 l_4.length (l_4.flatMap encP)]) ?_ ?_
 · refine jH [0] 9 ?_
   refine go ?_
   repeat' first
     | refine kD (i := 2) (j := 7) (k := 8) (by decide +kernel) ?_ ?_ ?_
     | refine kD (i := 3) (j := 7) (k := 8) (by decide +kernel) ?_ ?_ ?_
     | refine jZ (i := 7) (j := 8) (by decide +kernel) ?_ ?_
     | refine jB (i := 8) ?_ (by decide +kernel)
     | refine jB (i := 9) ?_ (by decide +kernel)
     | refine jB (i := 10) ?_ (by decide +kernel)
     | refine jB (i := 7) ?_ (by decide +kernel)
     | refine jZ (i := 3) (j := 8) (by decide +kernel) ?_ ?_
     | refine jB (i := 3) ?_ (by decide +kernel)
     | refine jZ (i := 3) (j := 7) (by decide +kernel) ?_ ?_
     | refine jZ (i := 2) (j := 8) (by decide +kernel) ?_ ?_
     | refine jB (i := 2) ?_ (by decide +kernel)
     | refine jZ (i := 2) (j := 7) (by decide +kernel) ?_ ?_
     | (refine jI (i := 2) [] (Y_named 5 []) ?_; rintro _ _ ⟨rfl, rfl⟩)
     | (refine jI (i := 3) [] (Y_iTxAsk z_10 (hJ.lim (by decide)) l_2a l_2c l_2 10935 f_3.1 (by omega) (hJ.okT (by decide)) (askG (fun h_ => growR (by omega))) (askT (fun h_ => growTR (by omega))) 20000000 (askB (fun h_ => growR (by omega))) (⟨5, [], [], 0, 0, []⟩ : CL) ⟨by (try dsimp only); omega, by (try dsimp only); omega, by (try dsimp only); omega, (show List.length ([] : Str) ≤ 1048576 by decide), (show List.length ([] : Str) ≤ 1048576 by decide), (show List.length ([] : Str) ≤ 1048576 by decide)⟩) (hpre := fun w hw => ⟨hw.sg, hw.sr, hw.hex hlow hpre.2⟩) ?_; rintro _ _ ⟨z_52, A_53, e_54, ha_55, hb_56, rfl, rfl⟩; refine go ?_)
     | (refine JX.al (i := 7) xzc fun b_59 => ?_)
     | (refine JX.al (i := 8) [iv 0, iv 0, str []] fun b_61 => ?_)
     | (refine JX.sx (i := 9) (xc z_52) ?_)
     | (refine JX.sy (i := 10) [iv A_53.code, iv A_53.n, str A_53.text] ?_)
     | exact JQ.cq ⟨z_52, A_53, b_59, b_61, e_54, ha_55, hb_56, EL.go, rfl⟩
 rintro _ _ ⟨z_36, A_37, b_41, b_42, e_38, ha_39, hb_40, ⟨_, rfl⟩, rfl⟩
 refine go ?_
 have hZ := hJ.step (by omega) ⟨by dsimp only; omega, by dsimp only; omega, by dsimp only; omega, by simp, by simp, by simp⟩ e_38 hb_40
 refine go ?_
 refine jA [] (Y_iTxNew 2 2 1) ?_
 rintro _ _ ⟨z_189, hz_190, rfl, rfl⟩
 refine jN [] (Y_named 5 []) ?_
 have hJ2 : xInv 0 z_189.t := by rw [hz_190]; exact (xInv.new (by decide))
 have hJ2n := hJ2.n
 refine jA [] (Y_iTxAsk z_189 (hJ2.lim (by decide)) l_2a l_2c l_2 10935 f_3.1 (by omega) (hJ2.okT (by decide)) (askG (fun h_ => growR (by omega))) (askT (fun h_ => growTR (by omega))) 20000000 (askB (fun h_ => growR (by omega))) (⟨5, [], [], 0, 0, []⟩ : CL) ⟨by (try dsimp only); omega, by (try dsimp only); omega, by (try dsimp only); omega, (show List.length ([] : Str) ≤ 1048576 by decide), (show List.length ([] : Str) ≤ 1048576 by decide), (show List.length ([] : Str) ≤ 1048576 by decide)⟩) (hpre := fun w hw => ⟨hw.see (i := 8) rfl, hw.seeRows 0 rfl, hw.hex hlow hpre.2⟩) ?_
 rintro _ _ ⟨z_191, A_192, e_193, ha_194, hb_195, rfl, rfl⟩
 refine go ?_
 refine jG xzc fun b_196 => ?_
 refine jG [iv 0, iv 0, str []] fun b_197 => ?_
 refine jD 1 (xc z_191) ?_
 refine jD 0 [iv A_192.code, iv A_192.n, str A_192.text] ?_
 refine go ?_
 have heq := e_38.symm.trans ((by rw [hz_11, hz_190] : _ = _).trans e_193)
 simp only [Prod.mk.injEq] at heq
 refine go ?_
 refine jK (PO.eqlA A_37 A_192 rfl rfl) ?_
 refine go ?_
 have h_198 : A_37 = A_192 := heq.2
 refine go ?_
 refine jW rfl rfl rfl (cB (dT h_198)) (jO [] Tryz.call21 rfl (Y_sameTx z_36 z_191 ((hZ.lim (by decide)).mono (show 500000000 ≤ 1000000000 by decide))) rfl (fun w hw => ⟨hw.seeRows 6 rfl, hw.seeRows 2 rfl⟩)) ?_
 rintro _ _ ⟨_, ⟨rfl, rfl⟩, rfl⟩
 refine go ?_
 have h_199 : z_36.t = z_191.t := heq.1
 refine go ?_
 have h_200 : ((z.t.calls.length : Nat) : Int) = ((l_4.length : Nat) : Int) := (by omega)
 first | refine kA 2 (v := .bool true) (cB (dT h_200)) ?_ | refine jv 2 (v := .bool true) (cB (dT h_200)) ?_ | refine kB 2 (v := .bool true) (cB (dT h_200)) ?_ | refine kC 2 (v := .bool true) (cB (dT h_200)) ?_
 exact jJ [] ⟨rfl, rfl⟩
end Go.Proofs.YthlfmbbaomdciaaGreatDoor
