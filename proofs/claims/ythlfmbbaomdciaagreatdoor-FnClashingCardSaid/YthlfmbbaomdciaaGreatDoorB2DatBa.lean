/-
Texts of the walk, joined: what each one proves stands at its theorems.
-/
import Derived.Test.YthlfmbbaomdciaaGreatDoorB0DatHo
import Derived.Test.YthlfmbbaomdciaaGreatDoorB2S65TX
import Derived.ChangeSlices
set_option linter.unusedSimpArgs false
set_option linter.unusedVariables false
set_option linter.unnecessarySimpa false
set_option maxHeartbeats 4000000
set_option maxRecDepth 4000
namespace Go.Proofs.YthlfmbbaomdciaaGreatDoor
open Go Go.RowKit
theorem sameTD {a b : TD} : a = b ↔ a.id = b.id ∧ a.age = b.age ∧ a.proc = b.proc ∧ a.began = b.began ∧ a.calls = b.calls ∧ a.ans = b.ans ∧ a.rd = b.rd ∧ a.wr = b.wr ∧ a.marks = b.marks ∧ a.state = b.state := by cases a; cases b; simp
theorem underK : Tryz.prog.underlying 43 = some (.struct (Tryz.prog.fieldsOf 43)) := by kernel_rfl
theorem PO.neqK {n : Nat} {e : Env} {d : Option Tmp} {ty : TypeId} {pos : String} {aft : Array Edge} {gd : Option (Nat × Bool)} {x y : Operand} {u : TypeId} (a b : CL) (hx : rd n e x = .agg #[.int .i64 a.kind, str a.name, str a.to_, .int .i64 a.a, .int .i64 a.b, str a.text]) (hy : rd n e y = .agg #[.int .i64 b.kind, str b.name, str b.to_, .int .i64 b.a, .int .i64 b.b, str b.text]) : PO Tryz.prog n e ⟨d, .binOp .neq 43 x y u, ty, pos, aft, gd⟩ (.bool (!decide (a = b))) := fun w => by
 have he : (Op.equalIn 10000 43 (.agg #[.int .i64 a.kind, str a.name, str a.to_, .int .i64 a.a, .int .i64 a.b, str a.text]) (.agg #[.int .i64 b.kind, str b.name, str b.to_, .int .i64 b.a, .int .i64 b.b, str b.text])).run Tryz.prog w = .ok (decide (a = b)) w := by
   rw [run_equalIn_struct w 9999 43 _ _ underK Tryz.stoodInHeld43]
   rw [show (Tryz.prog.fieldsOf 43).toList = [⟨ "Kind", 3, 0, false, "", "", 0⟩, ⟨ "Name", 9, 1, false, "", "", 8⟩, ⟨ "To", 9, 2, false, "", "", 24⟩, ⟨ "A", 3, 3, false, "", "", 40⟩, ⟨ "\x42", 3, 4, false, "", "", 48⟩, ⟨ "Text", 9, 5, false, "", "", 56⟩] by kernel_rfl]
   have e0 : (Op.equalIn 9999 3 (.int .i64 a.kind) (.int .i64 b.kind)).run Tryz.prog w = .ok (decide (a.kind = b.kind)) w := by
     rw [run_equalIn_int w 9998 3 _ _ _ _ kW]
     simp [beq_dec]
   have p0 : ∀ c : CL, (part 3 #[.int .i64 c.kind, str c.name, str c.to_, .int .i64 c.a, .int .i64 c.b, str c.text] 0).run Tryz.prog w = .ok (.int .i64 c.kind) w := fun c => by simp [part, str]
   have e1 : (Op.equalIn 9999 9 (str a.name) (str b.name)).run Tryz.prog w = .ok (decide (a.name = b.name)) w := by
     simp only [str]
     rw [run_equalIn_string w 9998 9 _ _ kO]
     simp [beq_dec]
   have p1 : ∀ c : CL, (part 9 #[.int .i64 c.kind, str c.name, str c.to_, .int .i64 c.a, .int .i64 c.b, str c.text] 1).run Tryz.prog w = .ok (str c.name) w := fun c => by simp [part, str]
   have e2 : (Op.equalIn 9999 9 (str a.to_) (str b.to_)).run Tryz.prog w = .ok (decide (a.to_ = b.to_)) w := by
     simp only [str]
     rw [run_equalIn_string w 9998 9 _ _ kO]
     simp [beq_dec]
   have p2 : ∀ c : CL, (part 9 #[.int .i64 c.kind, str c.name, str c.to_, .int .i64 c.a, .int .i64 c.b, str c.text] 2).run Tryz.prog w = .ok (str c.to_) w := fun c => by simp [part, str]
   have e3 : (Op.equalIn 9999 3 (.int .i64 a.a) (.int .i64 b.a)).run Tryz.prog w = .ok (decide (a.a = b.a)) w := by
     rw [run_equalIn_int w 9998 3 _ _ _ _ kW]
     simp [beq_dec]
   have p3 : ∀ c : CL, (part 3 #[.int .i64 c.kind, str c.name, str c.to_, .int .i64 c.a, .int .i64 c.b, str c.text] 3).run Tryz.prog w = .ok (.int .i64 c.a) w := fun c => by simp [part, str]
   have e4 : (Op.equalIn 9999 3 (.int .i64 a.b) (.int .i64 b.b)).run Tryz.prog w = .ok (decide (a.b = b.b)) w := by
     rw [run_equalIn_int w 9998 3 _ _ _ _ kW]
     simp [beq_dec]
   have p4 : ∀ c : CL, (part 3 #[.int .i64 c.kind, str c.name, str c.to_, .int .i64 c.a, .int .i64 c.b, str c.text] 4).run Tryz.prog w = .ok (.int .i64 c.b) w := fun c => by simp [part, str]
   have e5 : (Op.equalIn 9999 9 (str a.text) (str b.text)).run Tryz.prog w = .ok (decide (a.text = b.text)) w := by
     simp only [str]
     rw [run_equalIn_string w 9998 9 _ _ kO]
     simp [beq_dec]
   have p5 : ∀ c : CL, (part 9 #[.int .i64 c.kind, str c.name, str c.to_, .int .i64 c.a, .int .i64 c.b, str c.text] 5).run Tryz.prog w = .ok (str c.text) w := fun c => by simp [part, str]
   simp only [Op.eqFields, Sem.run_bind, p0, p1, p2, p3, p4, p5, e0, e1, e2, e3, e4, e5, Result.andThen_ok, ne_eq, Sem.run_ite, Sem.run_pure]
   obtain ⟨a0, a1, a2, a3, a4, a5⟩ := a
   obtain ⟨b0, b1, b2, b3, b4, b5⟩ := b
   by_cases h0 : a0 = b0
   · skip
     by_cases h1 : a1 = b1
     · skip
       by_cases h2 : a2 = b2
       · skip
         by_cases h3 : a3 = b3
         · skip
           by_cases h4 : a4 = b4
           · skip
             by_cases h5 : a5 = b5
             · skip
               simp [h0, h1, h2, h3, h4, h5]
             · simp [h0, h1, h2, h3, h4, h5]
           · simp [h0, h1, h2, h3, h4]
         · simp [h0, h1, h2, h3]
       · simp [h0, h1, h2]
     · simp [h0, h1]
   · simp [h0]
 simp only [execOp, hx, hy, Sem.run_bind, run_eqGuard_agg w .neq 43 x y _ _ Tryz.eqGuardType43, Result.andThen_ok, run_neq_struct, he, Sem.run_pure]
theorem underA : Tryz.prog.underlying 39 = some (.struct (Tryz.prog.fieldsOf 39)) := by kernel_rfl
theorem PO.neqA {n : Nat} {e : Env} {d : Option Tmp} {ty : TypeId} {pos : String} {aft : Array Edge} {gd : Option (Nat × Bool)} {x y : Operand} {u : TypeId} (a b : AN) (hx : rd n e x = .agg #[.int .i64 a.code, .int .i64 a.n, str a.text]) (hy : rd n e y = .agg #[.int .i64 b.code, .int .i64 b.n, str b.text]) : PO Tryz.prog n e ⟨d, .binOp .neq 39 x y u, ty, pos, aft, gd⟩ (.bool (!decide (a = b))) := fun w => by
 have he : (Op.equalIn 10000 39 (.agg #[.int .i64 a.code, .int .i64 a.n, str a.text]) (.agg #[.int .i64 b.code, .int .i64 b.n, str b.text])).run Tryz.prog w = .ok (decide (a = b)) w := by
   rw [run_equalIn_struct w 9999 39 _ _ underA Tryz.stoodInHeld39]
   rw [show (Tryz.prog.fieldsOf 39).toList = [⟨ "Code", 3, 0, false, "", "", 0⟩, ⟨ "N", 3, 1, false, "", "", 8⟩, ⟨ "Text", 9, 2, false, "", "", 16⟩] by kernel_rfl]
   have e0 : (Op.equalIn 9999 3 (.int .i64 a.code) (.int .i64 b.code)).run Tryz.prog w = .ok (decide (a.code = b.code)) w := by
     rw [run_equalIn_int w 9998 3 _ _ _ _ kW]
     simp [beq_dec]
   have p0 : ∀ c : AN, (part 3 #[.int .i64 c.code, .int .i64 c.n, str c.text] 0).run Tryz.prog w = .ok (.int .i64 c.code) w := fun c => by simp [part, str]
   have e1 : (Op.equalIn 9999 3 (.int .i64 a.n) (.int .i64 b.n)).run Tryz.prog w = .ok (decide (a.n = b.n)) w := by
     rw [run_equalIn_int w 9998 3 _ _ _ _ kW]
     simp [beq_dec]
   have p1 : ∀ c : AN, (part 3 #[.int .i64 c.code, .int .i64 c.n, str c.text] 1).run Tryz.prog w = .ok (.int .i64 c.n) w := fun c => by simp [part, str]
   have e2 : (Op.equalIn 9999 9 (str a.text) (str b.text)).run Tryz.prog w = .ok (decide (a.text = b.text)) w := by
     simp only [str]
     rw [run_equalIn_string w 9998 9 _ _ kO]
     simp [beq_dec]
   have p2 : ∀ c : AN, (part 9 #[.int .i64 c.code, .int .i64 c.n, str c.text] 2).run Tryz.prog w = .ok (str c.text) w := fun c => by simp [part, str]
   simp only [Op.eqFields, Sem.run_bind, p0, p1, p2, e0, e1, e2, Result.andThen_ok, ne_eq, Sem.run_ite, Sem.run_pure]
   obtain ⟨a0, a1, a2⟩ := a
   obtain ⟨b0, b1, b2⟩ := b
   by_cases h0 : a0 = b0
   · skip
     by_cases h1 : a1 = b1
     · skip
       by_cases h2 : a2 = b2
       · skip
         simp [h0, h1, h2]
       · simp [h0, h1, h2]
     · simp [h0, h1]
   · simp [h0]
 simp only [execOp, hx, hy, Sem.run_bind, run_eqGuard_agg w .neq 39 x y _ _ Tryz.eqGuardType39, Result.andThen_ok, run_neq_struct, he, Sem.run_pure]
attribute [local irreducible] JL JC JQ JO LO PO JA JX Ct

theorem C_sameCalls (a b : Option Addr) (c c' : Nat) (s t : List CL) (hn : s.length ≤ 9223372036854775807) :
   Ct Tryz.prog 100 [.slice a s.length c, .slice b t.length c'] [] (fun w => Sees w (.slice a s.length c) 6 s.length (s.flatMap encK) ∧ Sees w (.slice b t.length c') 6 t.length (t.flatMap encK)) (fun r A' => r = .bool (decide (s = t)) ∧ A' = []) := by
 refine Ct.intro Tryz.func100 rfl Tryz.ntmps100 (lb rfl) fun w0 hpre => ?_
 have hs_a : Sees w0 _ _ _ _ := hpre.1
 have hs_b : Sees w0 _ _ _ _ := hpre.2
 refine go ?_
 by_cases h_1 : ((s.length : Nat) : Int) = ((t.length : Nat) : Int)
 · have hlen := h_1
   refine go ?_
   refine jL (fun k_ e_ L_ => ∃ j : Nat, (j ≤ s.length) ∧ (s.take j = t.take j) ∧ (s.length = t.length) ∧ EL e_ [(0, .slice a s.length c), (1, .slice b t.length c'), (5, nv j)] ∧ L_ = [] ∧ k_ = s.length - j) _ ⟨0, by omega, rfl, by omega, EL.go, rfl, rfl⟩ ?_
   rintro _ _ _ ⟨j, hj, hE, hln, ⟨_, rfl⟩, rfl, rfl⟩
   refine go ?_
   by_cases h_2 : ((j : Nat) : Int) < ((s.length : Nat) : Int)
   · have hlt : j < s.length := by omega
     refine go ?_
     refine jH [] 8 ?_
     refine go ?_
     obtain ⟨hr_3, hr_3b, -⟩ := sees_some hs_a (by omega)
     refine go ?_
     refine jk 3 rfl (jj (vs := [iv (s.getD j k0).kind, str (s.getD j k0).name, str (s.getD j k0).to_, iv (s.getD j k0).a, iv (s.getD j k0).b, str (s.getD j k0).text]) hs_a nM rfl ki kX (flat_take encK_len k0 s j (by omega)) rfl (by decide)) ?_
     refine go ?_
     obtain ⟨hr_4, hr_4b, -⟩ := sees_some hs_b (by omega)
     refine go ?_
     refine jk 7 rfl (jj (vs := [iv (t.getD j k0).kind, str (t.getD j k0).name, str (t.getD j k0).to_, iv (t.getD j k0).a, iv (t.getD j k0).b, str (t.getD j k0).text]) hs_b nM rfl ki kX (flat_take encK_len k0 t j (by omega)) rfl (by decide)) <| jd 8 rfl (PO.neqK (s.getD j k0) (t.getD j k0) rfl rfl) ?_
     refine go ?_
     by_cases h_5 : s.getD j k0 = t.getD j k0
     · have heq := h_5
       refine go ?_
       refine jV (s.length - (j + 1)) (by omega) ⟨j + 1, by omega, take_succ_eq k0 hE hlt hln heq, hln, EL.go, rfl, rfl⟩
     have hne := h_5
     refine go ?_
     refine jE (.inl rfl) rfl (jC (v := .bool false) rfl) (List.nil_sublist _) ?_
     refine ⟨?_, rfl⟩
     rw [dF (fun h => hne (by rw [h]))]
   refine go ?_
   refine jE (.inl rfl) rfl (jC (v := .bool true) rfl) (List.nil_sublist _) ?_
   refine ⟨?_, rfl⟩
   rw [dT (take_all_eq hE (by omega) (by omega))]
 have hlen := h_1
 refine go ?_
 refine jE (.inl rfl) rfl (jC (v := .bool false) rfl) (List.nil_sublist _) ?_
 refine ⟨?_, rfl⟩
 rw [dF (fun h => by rw [h] at hlen; omega)]

theorem C_sameAnswers (a b : Option Addr) (c c' : Nat) (s t : List AN) (hn : s.length ≤ 9223372036854775807) :
   Ct Tryz.prog 30 [.slice a s.length c, .slice b t.length c'] [] (fun w => Sees w (.slice a s.length c) 3 s.length (s.flatMap encA) ∧ Sees w (.slice b t.length c') 3 t.length (t.flatMap encA)) (fun r A' => r = .bool (decide (s = t)) ∧ A' = []) := by
 refine Ct.intro Tryz.func30 rfl Tryz.ntmps30 (lb rfl) fun w0 hpre => ?_
 have hs_a : Sees w0 _ _ _ _ := hpre.1
 have hs_b : Sees w0 _ _ _ _ := hpre.2
 refine go ?_
 by_cases h_1 : ((s.length : Nat) : Int) = ((t.length : Nat) : Int)
 · have hlen := h_1
   refine go ?_
   refine jL (fun k_ e_ L_ => ∃ j : Nat, (j ≤ s.length) ∧ (s.take j = t.take j) ∧ (s.length = t.length) ∧ EL e_ [(0, .slice a s.length c), (1, .slice b t.length c'), (5, nv j)] ∧ L_ = [] ∧ k_ = s.length - j) _ ⟨0, by omega, rfl, by omega, EL.go, rfl, rfl⟩ ?_
   rintro _ _ _ ⟨j, hj, hE, hln, ⟨_, rfl⟩, rfl, rfl⟩
   refine go ?_
   by_cases h_2 : ((j : Nat) : Int) < ((s.length : Nat) : Int)
   · have hlt : j < s.length := by omega
     refine go ?_
     refine jH [] 8 ?_
     refine go ?_
     obtain ⟨hr_3, hr_3b, -⟩ := sees_some hs_a (by omega)
     refine go ?_
     refine jk 3 rfl (jj (vs := [iv (s.getD j a0_).code, iv (s.getD j a0_).n, str (s.getD j a0_).text]) hs_a nM rfl kp kY (flat_take encA_len a0_ s j (by omega)) rfl (by decide)) ?_
     refine go ?_
     obtain ⟨hr_4, hr_4b, -⟩ := sees_some hs_b (by omega)
     refine go ?_
     refine jk 7 rfl (jj (vs := [iv (t.getD j a0_).code, iv (t.getD j a0_).n, str (t.getD j a0_).text]) hs_b nM rfl kp kY (flat_take encA_len a0_ t j (by omega)) rfl (by decide)) <| jd 8 rfl (PO.neqA (s.getD j a0_) (t.getD j a0_) rfl rfl) ?_
     refine go ?_
     by_cases h_5 : s.getD j a0_ = t.getD j a0_
     · have heq := h_5
       refine go ?_
       refine jV (s.length - (j + 1)) (by omega) ⟨j + 1, by omega, take_succ_eq a0_ hE hlt hln heq, hln, EL.go, rfl, rfl⟩
     have hne := h_5
     refine go ?_
     refine jE (.inl rfl) rfl (jC (v := .bool false) rfl) (List.nil_sublist _) ?_
     refine ⟨?_, rfl⟩
     rw [dF (fun h => hne (by rw [h]))]
   refine go ?_
   refine jE (.inl rfl) rfl (jC (v := .bool true) rfl) (List.nil_sublist _) ?_
   refine ⟨?_, rfl⟩
   rw [dT (take_all_eq hE (by omega) (by omega))]
 have hlen := h_1
 refine go ?_
 refine jE (.inl rfl) rfl (jC (v := .bool false) rfl) (List.nil_sublist _) ?_
 refine ⟨?_, rfl⟩
 rw [dF (fun h => by rw [h] at hlen; omega)]

set_option maxRecDepth 4000 in
theorem Y_sameTx (p q : TX) (hl : p.t.lim 1000000000) :
   Ct Tryz.prog 21 [.agg #[.int .i64 p.t.id, .int .i64 p.t.age, .int .i64 p.t.proc, .int .i64 p.t.began, .slice p.x.a0 p.t.calls.length p.x.c0, .slice p.x.a1 p.t.ans.length p.x.c1, .slice p.x.a2 p.t.rd.length p.x.c2, .slice p.x.a3 p.t.wr.length p.x.c3, .slice p.x.a4 p.t.marks.length p.x.c4, .int .i64 p.t.state], .agg #[.int .i64 q.t.id, .int .i64 q.t.age, .int .i64 q.t.proc, .int .i64 q.t.began, .slice q.x.a0 q.t.calls.length q.x.c0, .slice q.x.a1 q.t.ans.length q.x.c1, .slice q.x.a2 q.t.rd.length q.x.c2, .slice q.x.a3 q.t.wr.length q.x.c3, .slice q.x.a4 q.t.marks.length q.x.c4, .int .i64 q.t.state]] [] (fun w => SeesA w (rdsX p) ∧ SeesA w (rdsX q)) (fun v A' => v = .bool (decide (p.t = q.t)) ∧ A' = []) := by
 refine Ct.intro Tryz.func21 rfl Tryz.ntmps21 (lb rfl) fun w0 hpre => ?_
 obtain ⟨hs_1, hs_2, hs_3, hs_4, hs_5⟩ := seesX hpre.1
 obtain ⟨hs_6, hs_7, hs_8, hs_9, hs_10⟩ := seesX hpre.2
 obtain ⟨hl0_, hl1_, hl2_, hl3_, hl4_⟩ := id hl
 refine go ?_
 refine jM (xc p) fun b_11 => ?_
 refine jM (xc q) fun b_12 => ?_
 refine go ?_
 by_cases h_13 : p.t.id = q.t.id
 · refine go ?_
   by_cases h_14 : p.t.age = q.t.age
   · refine go ?_
     by_cases h_15 : p.t.proc = q.t.proc
     · refine go ?_
       by_cases h_16 : p.t.began = q.t.began
       · refine go ?_
         refine jW rfl rfl rfl (cB (dT h_16)) (jO [] Tryz.call100 rfl (C_sameCalls p.x.a0 q.x.a0 p.x.c0 q.x.c0 p.t.calls q.t.calls (by omega)) rfl (fun w hw => ⟨hw.seeOut_ hs_1 nM, hw.seeOut_ hs_6 nM⟩)) ?_
         rintro _ _ ⟨_, ⟨rfl, rfl⟩, rfl⟩
         refine go ?_
         by_cases h_17 : p.t.calls = q.t.calls
         · refine go ?_
           refine jW rfl rfl rfl (cB (dT h_17)) (jO [] Tryz.call30 rfl (C_sameAnswers p.x.a1 q.x.a1 p.x.c1 q.x.c1 p.t.ans q.t.ans (by omega)) rfl (fun w hw => ⟨hw.seeOut_ hs_2 nM, hw.seeOut_ hs_7 nM⟩)) ?_
           rintro _ _ ⟨_, ⟨rfl, rfl⟩, rfl⟩
           refine go ?_
           by_cases h_18 : p.t.ans = q.t.ans
           · refine go ?_
             refine jW rfl rfl rfl (cB (dT h_18)) (jO [] Tryz.call26 rfl (C_sameTouch p.x.a2 p.x.a3 q.x.a2 q.x.a3 p.x.c2 p.x.c3 q.x.c2 q.x.c3 p.t.rd p.t.wr q.t.rd q.t.wr (by omega) (by omega)) rfl (fun w hw => ⟨hw.seeOut_ hs_3 nM, hw.seeOut_ hs_4 nM, hw.seeOut_ hs_8 nM, hw.seeOut_ hs_9 nM⟩)) ?_
             rintro _ _ ⟨_, ⟨rfl, rfl⟩, rfl⟩
             refine go ?_
             rcases Bool.eq_false_or_eq_true (decide (p.t.rd = q.t.rd) && decide (p.t.wr = q.t.wr)) with h_19 | h_19
             · have h_19d := h_19
               simp only [Bool.and_eq_true, Bool.and_eq_false_iff, decide_eq_true_eq, decide_eq_false_iff_not] at h_19d
               refine go ?_
               refine jW rfl rfl rfl (cB h_19) (jO [] Tryz.call68 rfl (C_sameInts p.x.a4 q.x.a4 p.x.c4 q.x.c4 p.t.marks q.t.marks (by omega)) rfl (fun w hw => ⟨hw.seeOut_ hs_5 nM, hw.seeOut_ hs_10 nM⟩)) ?_
               rintro _ _ ⟨_, ⟨rfl, rfl⟩, rfl⟩
               refine go ?_
               by_cases h_20 : p.t.marks = q.t.marks
               · refine go ?_
                 refine jE (.inl rfl) rfl (jC (v := .bool (decide (p.t.state = q.t.state))) rfl) (List.nil_sublist _) ?_
                 refine ⟨cB (decide_eq_decide.2 ?_), rfl⟩
                 rw [sameTD]
                 simp_all
               refine go ?_
               refine jE (.inl rfl) rfl (jC (v := .bool false) rfl) (List.nil_sublist _) ?_
               refine ⟨cB (dF (fun h_ => ?_)).symm, rfl⟩
               obtain ⟨g0_, g1_, g2_, g3_, g4_, g5_, g6_, g7_, g8_, g9_⟩ := sameTD.1 h_
               first | contradiction | simp_all
             have h_19d := h_19
             simp only [Bool.and_eq_true, Bool.and_eq_false_iff, decide_eq_true_eq, decide_eq_false_iff_not] at h_19d
             refine go ?_
             refine jE (.inl rfl) rfl (jC (v := .bool false) rfl) (List.nil_sublist _) ?_
             refine ⟨cB (dF (fun h_ => ?_)).symm, rfl⟩
             obtain ⟨g0_, g1_, g2_, g3_, g4_, g5_, g6_, g7_, g8_, g9_⟩ := sameTD.1 h_
             first | contradiction | simp_all
           refine go ?_
           refine jE (.inl rfl) rfl (jC (v := .bool false) rfl) (List.nil_sublist _) ?_
           refine ⟨cB (dF (fun h_ => ?_)).symm, rfl⟩
           obtain ⟨g0_, g1_, g2_, g3_, g4_, g5_, g6_, g7_, g8_, g9_⟩ := sameTD.1 h_
           first | contradiction | simp_all
         refine go ?_
         refine jE (.inl rfl) rfl (jC (v := .bool false) rfl) (List.nil_sublist _) ?_
         refine ⟨cB (dF (fun h_ => ?_)).symm, rfl⟩
         obtain ⟨g0_, g1_, g2_, g3_, g4_, g5_, g6_, g7_, g8_, g9_⟩ := sameTD.1 h_
         first | contradiction | simp_all
       refine go ?_
       refine jE (.inl rfl) rfl (jC (v := .bool false) rfl) (List.nil_sublist _) ?_
       refine ⟨cB (dF (fun h_ => ?_)).symm, rfl⟩
       obtain ⟨g0_, g1_, g2_, g3_, g4_, g5_, g6_, g7_, g8_, g9_⟩ := sameTD.1 h_
       first | contradiction | simp_all
     refine go ?_
     refine jE (.inl rfl) rfl (jC (v := .bool false) rfl) (List.nil_sublist _) ?_
     refine ⟨cB (dF (fun h_ => ?_)).symm, rfl⟩
     obtain ⟨g0_, g1_, g2_, g3_, g4_, g5_, g6_, g7_, g8_, g9_⟩ := sameTD.1 h_
     first | contradiction | simp_all
   refine go ?_
   refine jE (.inl rfl) rfl (jC (v := .bool false) rfl) (List.nil_sublist _) ?_
   refine ⟨cB (dF (fun h_ => ?_)).symm, rfl⟩
   obtain ⟨g0_, g1_, g2_, g3_, g4_, g5_, g6_, g7_, g8_, g9_⟩ := sameTD.1 h_
   first | contradiction | simp_all
 refine go ?_
 refine jE (.inl rfl) rfl (jC (v := .bool false) rfl) (List.nil_sublist _) ?_
 refine ⟨cB (dF (fun h_ => ?_)).symm, rfl⟩
 obtain ⟨g0_, g1_, g2_, g3_, g4_, g5_, g6_, g7_, g8_, g9_⟩ := sameTD.1 h_
 first | contradiction | simp_all
end Go.Proofs.YthlfmbbaomdciaaGreatDoor
namespace Go.Proofs.YthlfmbbaomdciaaGreatDoor
open Go Go.RowKit Go.ChangeShapes Go.WideShapes Go.ChangeAt
theorem openB {H : Type} {enc : TypeId × Value → H} {P : Program} {w : World} {base : Nat} {sp : Nat → Bool} {hd : Bool} {t e fuel : Nat} {v : Value} {x : DataW H × List MemPlace} (ht : P.underlying t = some (.slice e)) (he : P.underlying e = some (.int .u8)) (ce : P.cellsOf e = 1)
   (hsp : ∀ a n c, v = .slice (some a) n c → a.spot = none ∧ a.block < w.heap.size) (h : DataW.trod enc P w base sp hd fuel t [v] = some x) :
   ∃ a c, ∃ l : Str, v = .slice a l.length c ∧ Sees w (.slice a l.length c) 1 l.length (l.map encB) ∧ l.length ≤ 9223372036854775807 := by
 rcases open_ints ht he ce h with ⟨hv, _⟩ | ⟨a, len, cap, zs, hv, _, hl, hm, hz, _, hcell, hwz⟩
 · simp only [List.cons.injEq, and_true] at hv
   exact ⟨none, 0, [], hv, sees_nil 1, by simp⟩
 · simp only [List.cons.injEq, and_true] at hv
   obtain ⟨hs, hlt⟩ := hsp _ _ _ hv
   obtain ⟨b, o, s⟩ := a
   simp only at hs hlt
   subst hs
   have hle : len ≤ zs.length := by rw [hz]; split <;> omega
   obtain ⟨l, hll, hp⟩ := list_of (p := fun i (c : UInt8) => w.cell? ⟨b, o + i, none⟩ = some (.int .u8 ((c.toNat : Nat) : Int))) (0 : UInt8) len (fun i hi => by
     have h1 := hcell i (by omega)
     have h2 := range_u8 hwz i
     rw [add_lit] at h1
     refine ⟨UInt8.ofNat (zs.getD i 0).toNat, ?_⟩
     rw [List.getD_eq_getElem?_getD] at h1 ⊢
     rw [h1, UInt8.toNat_ofNat_of_lt' (by show _ < 256; omega), Int.toNat_of_nonneg h2.1])
   subst hll
   refine ⟨some ⟨b, o, none⟩, cap, l, hv, ⟨by simp, .inr ⟨b, o, cap, rfl, hl, hm, hlt, fun j u hj => ?_⟩⟩, by unfold maxLen at *; omega⟩
   have hjl : j < l.length := by
     have := (List.getElem?_eq_some_iff.1 hj).1
     simpa using this
   rw [List.getElem?_map, getD_some (d := 0) hjl] at hj
   simp only [Option.map_some, Option.some.injEq] at hj
   rw [← hj]
   exact hp j hjl
theorem cellWide {P : Program} {w : World} {r : Reach} {base : Nat} {t e : TypeId} {v : Value} (ht : P.underlying t = some (.slice e)) (h : Value.okWide P w r base t v) : Cell.okWide P w r base t v := by
 simp only [Value.okWide, ht] at h
 exact h
theorem openBytesG {H : Type} {enc : TypeId × Value → H} {P : Program} {W : World} {base : Nat} {sp : Nat → Bool} {hd : Bool} {b0 : Nat} {r : Reach} {v : Value} {d : DataW H} {ps : List MemPlace} {t e : TypeId} (ht : P.underlying t = some (.slice e)) (he : P.underlying e = some (.int .u8)) (ce : P.cellsOf e = 1)
   (hv : Value.okWide P W r b0 t v) (h : DataW.Trod enc P W base sp hd t v d ps) :
   ∃ a c, ∃ l : Str, v = .slice a l.length c ∧ Sees W (.slice a l.length c) 1 l.length (l.map encB) ∧ l.length ≤ 9223372036854775807 := by
 obtain ⟨a, len, cap, rfl⟩ := okWide_slice ht hv
 have hc := cellWide ht hv
 obtain ⟨fuel, hf⟩ := h
 exact openB ht he ce (spot_of ht hc) hf
theorem cellsB : Tryz.prog.cellsOf 5 = 1 := by kernel_rfl
attribute [local irreducible] Value.okWide DataW.Trod in
theorem open_bytes {H : Type} {enc : TypeId × Value → H} {W : World} {base : Nat} {sp : Nat → Bool} {hd : Bool} {b0 : Nat} {r : Reach} {v : Value} {d : DataW H} {ps : List MemPlace} (hv : Value.okWide Tryz.prog W r b0 22 v) (h : DataW.Trod enc Tryz.prog W base sp hd 22 v d ps) :
   ∃ a c, ∃ l : Str, v = .slice a l.length c ∧ Sees W (.slice a l.length c) 1 l.length (l.map encB) ∧ l.length ≤ 9223372036854775807 :=
 openBytesG (P := Tryz.prog) (H := H) (enc := enc) (W := W) (base := base) (sp := sp) (hd := hd) (b0 := b0) (r := r) (v := v) (d := d) (ps := ps) (t := 22) (e := 5) Tryz.underlying22 Tryz.underlying5 cellsB hv h
end Go.Proofs.YthlfmbbaomdciaaGreatDoor
namespace Go.Proofs.YthlfmbbaomdciaaGreatDoor
open Go Go.RowKit
namespace Pr
variable {α : Type}
theorem kr_tr : ∀ (p : Pr α) (s : List Cell), p.kr → okKeys s → ∀ k ∈ (p.tr s).r, k.length ≤ 3000000
 | .ret a, s, _, _, k, hk => by cases hk
 | .look k f, s, h, hs, x, hx => by
   rcases List.mem_cons.1 hx with rfl | hx
   · exact Nat.le_trans h.1 (by decide)
   · exact kr_tr (f (getKey s k)) s (h.2 _) hs x hx
 | .lay k v p, s, h, hs, x, hx => kr_tr p _ h.2 (okKeys_put hs k v) x hx
 | .under k f, s, h, hs, x, hx => by
   rcases List.mem_cons.1 hx with rfl | hx
   · have := h.1; simp only [List.length_append, List.length_cons, List.length_nil]; omega
   · exact kr_tr (f (keysUnder s k)) s (h.2 _ (okKeys_under hs k)) hs x hx
end Pr
theorem callTr_r {s : List Cell} {a : Int} {c : CL} (hra : (-9223372036854775808 ≤ a ∧ a ≤ 9223372036854775807)) (hc : c.ok 1048576) (hs : Pr.okKeys s) : ∀ k ∈ (callTr s a c).r, k.length ≤ 3000000 := Pr.kr_tr _ s (Pr.kr_doCall a c hra hc) hs
end Go.Proofs.YthlfmbbaomdciaaGreatDoor
namespace Go.Proofs.YthlfmbbaomdciaaGreatDoor
open Go Go.RowKit
theorem okKeys_steps : ∀ (l : List SP) {s : List Cell}, Pr.okKeys s → Pr.okKeys (stepsTr s l).s
 | [], s, h => h
 | p :: l, s, h => okKeys_steps l (callTr_keys h _ _)
section
variable {s : List Cell} {l : List SP} {r w : List Str} {M M' : List Int} {P : Int} {i j : Nat} {t z y : TD}
theorem bInv.new : bInv s l [] [] [0] 1 0 0 (TD.new 1 1 1).mark.1 := ⟨rfl, rfl, by decide, rfl, rfl, rfl, rfl, rfl, Nat.zero_le _, Nat.zero_le _, rfl⟩
end
end Go.Proofs.YthlfmbbaomdciaaGreatDoor
