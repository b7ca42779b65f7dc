/-
Texts of the walk, joined: what each one proves stands at its theorems.
-/
import Derived.Test.YthlfmbbaomdciaaGreatDoorB6DatHo
set_option linter.unusedSimpArgs false
set_option linter.unusedVariables false
set_option linter.unnecessarySimpa false
set_option maxHeartbeats 4000000
set_option maxRecDepth 4000
namespace Go.Proofs.YthlfmbbaomdciaaGreatDoor
open Go Go.RowKit
attribute [local irreducible] JL JC JQ JO LO PO JA JX Ct
set_option maxRecDepth 4000 in
theorem Y_sOver (sa : Option Addr) (sc : Nat) (s : List Cell) (ta : Option Addr) (tc : Nat) (t : List Cell) (ra : Option Addr) (rc : Nat) (r' : List Str) (wa : Option Addr) (wc : Nat) (w' : List Str) (h1 : s.length ≤ 1000000000) (h2 : t.length ≤ 1000000000) (h3 : r'.length ≤ 1000000000) (h4 : w'.length ≤ 1000000000) (hk : okW w') :
   Ct Tryz.prog 144 [.slice sa s.length sc, .slice ta t.length tc, .agg #[.slice ra r'.length rc, .slice wa w'.length wc]] [] (fun w => Sees w (.slice sa s.length sc) 2 s.length (s.flatMap encC) ∧ Sees w (.slice ta t.length tc) 2 t.length (t.flatMap encC) ∧ Sees w (.slice ra r'.length rc) 1 r'.length (r'.map str) ∧ Sees w (.slice wa w'.length wc) 1 w'.length (w'.map str)) (fun v A' => ∃ a c, v = .slice a (laidW s t w').length c ∧ A' = [rC a c (laidW s t w')]) := by
 refine Ct.intro Tryz.func144 rfl Tryz.ntmps144 (lb rfl) fun w0 hpre => ?_
 have hs_sa : Sees w0 _ _ _ _ := hpre.1
 have hs_ta : Sees w0 _ _ _ _ := hpre.2.1
 have hs_ra : Sees w0 _ _ _ _ := hpre.2.2.1
 have hs_wa : Sees w0 _ _ _ _ := hpre.2.2.2
 refine go ?_
 refine jM [.slice ra r'.length rc, .slice wa w'.length wc] fun b_1 => ?_
 refine go ?_
 refine jF rfl (jR (ps := []) (cur := #[]) kK kP kq rfl (by kernel_rfl) (by decide) (by decide)) ?_
 rintro _ _ ⟨a_2, rfl, rfl⟩
 refine go ?_
 refine jF rfl (jX 0 (q := s.length) (news := s.flatMap encC) (n' := s.length) (cs' := s.flatMap encC) rfl kK kK ko rfl (by' := 32) rfl rfl rfl rfl rfl (fun w hw => Src.sees (hw.seeOut_ hs_sa nM) (oneC _)) (by (try simp only [LE]); omega) (by (try simp only [LE]); omega) (by (try simp only [List.length_take, List.length_drop]); first | rfl | omega) rfl) ?_
 rintro _ _ ⟨a_3, c_4, rfl, rfl⟩
 refine go ?_
 refine jL (fun k_ e_ L_ => ∃ j_ : Nat, ∃ oa : Option Addr, ∃ oc : Nat, ∃ o_ : List Cell, (j_ ≤ w'.length) ∧ (o_ = (laidW s t (w'.take j_))) ∧ (o_.length ≤ s.length + j_) ∧ EL e_ [(1, .slice ta t.length tc), (5, .pointer (some ⟨b_1, 0, none⟩)), (6, .slice none 0 0), (7, .slice oa o_.length oc), (8, nv j_)] ∧ L_ = [rC oa oc o_, bk b_1 32 [.slice ra r'.length rc, .slice wa w'.length wc]] ∧ k_ = w'.length - j_) _ ⟨0, a_3, c_4, s, by omega, rfl, by omega, EL.go, rfl, rfl⟩ ?_
 rintro _ _ _ ⟨j_, oa, oc, o_, hj, ho, hol, ⟨_, rfl⟩, rfl, rfl⟩
 refine go ?_
 by_cases h_5 : ((j_ : Nat) : Int) < ((w'.length : Nat) : Int)
 · have hlt : j_ < w'.length := by omega
   have hkl := hk _ (getD_mem (d := ([] : Str)) hlt)
   refine go ?_
   refine jH [1] 14 ?_
   refine go ?_
   obtain ⟨hr_6, hr_6b, -⟩ := sees_some hs_wa (by omega)
   refine go ?_
   refine jk 5 rfl (jY (v := str (w'.getD j_ [])) hs_wa nM rfl kJ (atS (by omega))) ?_
   refine go ?_
   refine jk 11 rfl (jY (v := str (w'.getD j_ [])) hs_wa nM rfl kJ (atS (by omega))) ?_
   refine jB (i := 12) ?_
   refine jI [] (C_sGetKey ta tc t (w'.getD j_ []) (by omega)) (hpre := fun w hw => hw.seeOut_ hs_ta nM) ?_
   rintro _ _ ⟨rfl, rfl⟩
   refine jB (i := 13) ?_
   refine jI [] (C_sPutKey oa oc o_ (w'.getD j_ []) (getKey t (w'.getD j_ [])) (by omega) (by omega)) (hpre := fun w hw => hw.see (i := 0) rfl) ?_
   rintro _ _ ⟨a_9, c_10, rfl, rfl⟩
   refine go ?_
   exact jP [0, 1] ⟨j_ + 1, a_9, c_10, (putKey o_ (w'.getD j_ []) (getKey t (w'.getD j_ []))), by omega, (by rw [laidW_step hlt, ← ho]), (by have h_ := putKey_len o_ (w'.getD j_ []) (getKey t (w'.getD j_ [])); omega), EL.go, rfl, rfl⟩
 rw [List.take_of_length_le (by omega)] at ho
 refine go ?_
 refine jE (.inl rfl) rfl (jC (v := .slice oa o_.length oc) rfl) (tS 1 _) ?_
 subst ho
 exact ⟨_, _, rfl, rfl⟩

set_option maxRecDepth 4000 in
theorem Y_sTxLaid (p : TX) (hl : p.t.lim 500000000) (sa : Option Addr) (sc : Nat) (s : List Cell) (n : Nat) (hO : okC' n 1048576 s) (hn : n ≤ 28000000) (hc : okT p.t) (hg : gro n p.t.calls.length ≤ 28000000) (hgT : groT n 0 p.t.calls.length ≤ 1000000000) (hk : okW p.t.wr) :
   Ct Tryz.prog 57 [.slice sa s.length sc, .agg #[.int .i64 p.t.id, .int .i64 p.t.age, .int .i64 p.t.proc, .int .i64 p.t.began, .slice p.x.a0 p.t.calls.length p.x.c0, .slice p.x.a1 p.t.ans.length p.x.c1, .slice p.x.a2 p.t.rd.length p.x.c2, .slice p.x.a3 p.t.wr.length p.x.c3, .slice p.x.a4 p.t.marks.length p.x.c4, .int .i64 p.t.state]] [] (fun w => Sees w (.slice sa s.length sc) 2 s.length (s.flatMap encC) ∧ SeesA w (rdsX p)) (fun v A' => ∃ a c, okC' (gro n p.t.calls.length) 1048576 (viewL s p.t) ∧ v = .slice a (laidW s (viewL s p.t) p.t.wr).length c ∧ A' = [rC a c (laidW s (viewL s p.t) p.t.wr)]) := by
 have hlv := hl
 refine Ct.intro Tryz.func57 rfl Tryz.ntmps57 (lb rfl) fun w0 hpre => ?_
 have hs_s : Sees w0 _ _ _ _ := hpre.1
 have hl := hl.mono (show 500000000 ≤ 1000000000 by decide)
 obtain ⟨hs_1, hs_2, hs_3, hs_4, hs_5⟩ := seesX hpre.2
 have hlp := hl
 obtain ⟨hl0_, hl1_, hl2_, hl3_, hl4_⟩ := id hl
 have hO1 := hO.1
 have hsl : (stepsOf p.t).length = p.t.calls.length := List.length_map _
 have hsP := okSteps_of hc
 have hcp := hc.pr
 have hcn := hc.n
 refine go ?_
 refine jM (xc p) fun b_6 => ?_
 refine go ?_
 refine jH [0] 7 ?_
 refine go ?_
 refine jB (i := 3) ?_
 refine jI [] (Y_sTxView p hlv sa sc s n hO (by omega) hc hg hgT) (hpre := fun w hw => ⟨hw.seeOut_ hs_s nM, hw.seeOutA hpre.2 nMA⟩) ?_
 rintro _ _ ⟨a_22, c_23, v_24, e_25, hO_26, rfl, rfl⟩
 refine jB (i := 6) ?_
 refine jI [] (Y_sOver sa sc s a_22 c_23 v_24 p.x.a2 p.x.c2 p.t.rd p.x.a3 p.x.c3 p.t.wr (by have h_ := (hO).1; omega) (by have h_ := (hO_26).1; omega) (by omega) (by omega) hk) (hpre := fun w hw => ⟨hw.seeOut_ hs_s nM, hw.see (i := 0) rfl, hw.seeOut_ hs_3 nM, hw.seeOut_ hs_4 nM⟩) ?_
 rintro _ _ ⟨a_29, c_30, rfl, rfl⟩
 refine go ?_
 refine jE (.inl rfl) rfl (jC (v := .slice a_29 (laidW s v_24 p.t.wr).length c_30) rfl) (tS 1 _) ?_
 exact ⟨a_29, c_30, by rw [e_25]; exact hO_26, by rw [e_25], by rw [e_25] <;> rfl⟩
end Go.Proofs.YthlfmbbaomdciaaGreatDoor
namespace Go.Proofs.YthlfmbbaomdciaaGreatDoor
open Go Go.RowKit
theorem any_mem (y : List Str) (x : Str) : (y.any fun q => decide (x = q)) = decide (x ∈ y) := by
 rw [Bool.eq_iff_iff]
 simp
theorem inAll_true {s y : List Str} {j : Nat} (h : s.length ≤ j) (hN : ∀ i, i < j → (y.any fun q => decide (s.getD i [] = q)) = true) : inAll s y = true := inAll_iff.2 fun x hx => by
 obtain ⟨i, hi, rfl⟩ := List.getElem_of_mem hx
 have h1 := hN i (by omega)
 rw [any_mem, decide_eq_true_eq, List.getD_eq_getElem?_getD, List.getElem?_eq_getElem hi] at h1
 exact h1
theorem inAll_false {s y : List Str} {j : Nat} (h : j < s.length) (hn : (y.any fun q => decide (s.getD j [] = q)) = false) : inAll s y = false := by
 rw [any_mem, decide_eq_false_iff_not] at hn
 cases hb : inAll s y with
 | false => rfl
 | true => exact absurd (inAll_iff.1 hb _ (getD_mem h)) hn
def rightL (s : List Cell) (t : TD) : Bool :=
 decide ((runL s [] [] [] (stepsOf t)).2.1 = t.ans) && (inAll (runL s [] [] [] (stepsOf t)).2.2.1 t.rd && inAll (runL s [] [] [] (stepsOf t)).2.2.2 t.wr)
theorem right_eq (s : List Cell) (t : TD) : rightA s t = rightL s t := by
 unfold rightA rightL
 rw [runA_tr, runL_tr _ _ _ _ _ srt.nil srt.nil]
end Go.Proofs.YthlfmbbaomdciaaGreatDoor
namespace Go.Proofs.YthlfmbbaomdciaaGreatDoor
open Go Go.RowKit
theorem underNK : Tryz.prog.underlying 43 = some (.struct (Tryz.prog.fieldsOf 43)) := by kernel_rfl
theorem eqInK (m : Nat) (w : World) (a b : CL) : (Op.equalIn (m + 2) 43 (.agg #[.int .i64 a.kind, str a.name, str a.to_, .int .i64 a.a, .int .i64 a.b, str a.text]) (.agg #[.int .i64 b.kind, str b.name, str b.to_, .int .i64 b.a, .int .i64 b.b, str b.text])).run Tryz.prog w = .ok (decide (a = b)) w := by
 rw [run_equalIn_struct w (m + 1) 43 _ _ underNK Tryz.stoodInHeld43]
 rw [show (Tryz.prog.fieldsOf 43).toList = [⟨ "Kind", 3, 0, false, "", "", 0⟩, ⟨ "Name", 9, 1, false, "", "", 8⟩, ⟨ "To", 9, 2, false, "", "", 24⟩, ⟨ "A", 3, 3, false, "", "", 40⟩, ⟨ "\x42", 3, 4, false, "", "", 48⟩, ⟨ "Text", 9, 5, false, "", "", 56⟩] by kernel_rfl]
 have e0 : (Op.equalIn (m + 1) 3 (.int .i64 a.kind) (.int .i64 b.kind)).run Tryz.prog w = .ok (decide (a.kind = b.kind)) w := by
   rw [run_equalIn_int w m 3 _ _ _ _ kW]
   simp [beq_dec]
 have p0 : ∀ c : CL, (part 3 #[.int .i64 c.kind, str c.name, str c.to_, .int .i64 c.a, .int .i64 c.b, str c.text] 0).run Tryz.prog w = .ok (.int .i64 c.kind) w := fun c => by simp [part, str]
 have e1 : (Op.equalIn (m + 1) 9 (str a.name) (str b.name)).run Tryz.prog w = .ok (decide (a.name = b.name)) w := by
   simp only [str]
   rw [run_equalIn_string w m 9 _ _ kO]
   simp [beq_dec]
 have p1 : ∀ c : CL, (part 9 #[.int .i64 c.kind, str c.name, str c.to_, .int .i64 c.a, .int .i64 c.b, str c.text] 1).run Tryz.prog w = .ok (str c.name) w := fun c => by simp [part, str]
 have e2 : (Op.equalIn (m + 1) 9 (str a.to_) (str b.to_)).run Tryz.prog w = .ok (decide (a.to_ = b.to_)) w := by
   simp only [str]
   rw [run_equalIn_string w m 9 _ _ kO]
   simp [beq_dec]
 have p2 : ∀ c : CL, (part 9 #[.int .i64 c.kind, str c.name, str c.to_, .int .i64 c.a, .int .i64 c.b, str c.text] 2).run Tryz.prog w = .ok (str c.to_) w := fun c => by simp [part, str]
 have e3 : (Op.equalIn (m + 1) 3 (.int .i64 a.a) (.int .i64 b.a)).run Tryz.prog w = .ok (decide (a.a = b.a)) w := by
   rw [run_equalIn_int w m 3 _ _ _ _ kW]
   simp [beq_dec]
 have p3 : ∀ c : CL, (part 3 #[.int .i64 c.kind, str c.name, str c.to_, .int .i64 c.a, .int .i64 c.b, str c.text] 3).run Tryz.prog w = .ok (.int .i64 c.a) w := fun c => by simp [part, str]
 have e4 : (Op.equalIn (m + 1) 3 (.int .i64 a.b) (.int .i64 b.b)).run Tryz.prog w = .ok (decide (a.b = b.b)) w := by
   rw [run_equalIn_int w m 3 _ _ _ _ kW]
   simp [beq_dec]
 have p4 : ∀ c : CL, (part 3 #[.int .i64 c.kind, str c.name, str c.to_, .int .i64 c.a, .int .i64 c.b, str c.text] 4).run Tryz.prog w = .ok (.int .i64 c.b) w := fun c => by simp [part, str]
 have e5 : (Op.equalIn (m + 1) 9 (str a.text) (str b.text)).run Tryz.prog w = .ok (decide (a.text = b.text)) w := by
   simp only [str]
   rw [run_equalIn_string w m 9 _ _ kO]
   simp [beq_dec]
 have p5 : ∀ c : CL, (part 9 #[.int .i64 c.kind, str c.name, str c.to_, .int .i64 c.a, .int .i64 c.b, str c.text] 5).run Tryz.prog w = .ok (str c.text) w := fun c => by simp [part, str]
 simp only [Op.eqFields, Sem.run_bind, p0, p1, p2, p3, p4, p5, e0, e1, e2, e3, e4, e5, Result.andThen_ok, ne_eq, Sem.run_ite, Sem.run_pure]
 obtain ⟨a0, a1, a2, a3, a4, a5⟩ := a
 obtain ⟨b0, b1, b2, b3, b4, b5⟩ := b
 by_cases h0 : a0 = b0
 · skip
   by_cases h1 : a1 = b1
   · skip
     by_cases h2 : a2 = b2
     · skip
       by_cases h3 : a3 = b3
       · skip
         by_cases h4 : a4 = b4
         · skip
           by_cases h5 : a5 = b5
           · skip
             simp [h0, h1, h2, h3, h4, h5]
           · simp [h0, h1, h2, h3, h4, h5]
         · simp [h0, h1, h2, h3, h4]
       · simp [h0, h1, h2, h3]
     · simp [h0, h1, h2]
   · simp [h0, h1]
 · simp [h0]
theorem underP : Tryz.prog.underlying 45 = some (.struct (Tryz.prog.fieldsOf 45)) := by kernel_rfl
theorem PO.neqP {n : Nat} {e : Env} {d : Option Tmp} {ty : TypeId} {pos : String} {aft : Array Edge} {gd : Option (Nat × Bool)} {x y : Operand} {u : TypeId} (a b : SP) (hx : rd n e x = .agg #[.int .i64 a.proc, .int .i64 a.call.kind, str a.call.name, str a.call.to_, .int .i64 a.call.a, .int .i64 a.call.b, str a.call.text]) (hy : rd n e y = .agg #[.int .i64 b.proc, .int .i64 b.call.kind, str b.call.name, str b.call.to_, .int .i64 b.call.a, .int .i64 b.call.b, str b.call.text]) : PO Tryz.prog n e ⟨d, .binOp .neq 45 x y u, ty, pos, aft, gd⟩ (.bool (!decide (a = b))) := fun w => by
 have he : (Op.equalIn 10000 45 (.agg #[.int .i64 a.proc, .int .i64 a.call.kind, str a.call.name, str a.call.to_, .int .i64 a.call.a, .int .i64 a.call.b, str a.call.text]) (.agg #[.int .i64 b.proc, .int .i64 b.call.kind, str b.call.name, str b.call.to_, .int .i64 b.call.a, .int .i64 b.call.b, str b.call.text])).run Tryz.prog w = .ok (decide (a = b)) w := by
   rw [run_equalIn_struct w 9999 45 _ _ underP Tryz.stoodInHeld45]
   rw [show (Tryz.prog.fieldsOf 45).toList = [⟨ "Proc", 3, 0, false, "", "", 0⟩, ⟨ "Call", 43, 1, false, "", "", 8⟩] by kernel_rfl]
   have e0 : (Op.equalIn 9999 3 (.int .i64 a.proc) (.int .i64 b.proc)).run Tryz.prog w = .ok (decide (a.proc = b.proc)) w := by
     rw [run_equalIn_int w 9998 3 _ _ _ _ kW]
     simp [beq_dec]
   have e1 := eqInK 9997 w a.call b.call
   have p0 : ∀ c : SP, (part 3 #[.int .i64 c.proc, .int .i64 c.call.kind, str c.call.name, str c.call.to_, .int .i64 c.call.a, .int .i64 c.call.b, str c.call.text] 0).run Tryz.prog w = .ok (.int .i64 c.proc) w := fun c => by simp [part, str]
   have p1 : ∀ c : SP, (part 43 #[.int .i64 c.proc, .int .i64 c.call.kind, str c.call.name, str c.call.to_, .int .i64 c.call.a, .int .i64 c.call.b, str c.call.text] 1).run Tryz.prog w = .ok (.agg #[.int .i64 c.call.kind, str c.call.name, str c.call.to_, .int .i64 c.call.a, .int .i64 c.call.b, str c.call.text]) w := fun c => by simp [part, str, Sem.run_bind, ki w, kX w]
   simp only [Op.eqFields, Sem.run_bind, p0, p1, e0, e1, Result.andThen_ok, ne_eq, Sem.run_ite, Sem.run_pure]
   obtain ⟨a0, a1⟩ := a
   obtain ⟨b0, b1⟩ := b
   by_cases h0 : a0 = b0
   · by_cases h1 : a1 = b1 <;> simp [h0, h1]
   · simp [h0]
 simp only [execOp, hx, hy, Sem.run_bind, run_eqGuard_agg w .neq 45 x y _ _ Tryz.eqGuardType45, Result.andThen_ok, run_neq_struct, he, Sem.run_pure]
attribute [local irreducible] JL JC JQ JO LO PO JA JX Ct

theorem Y_eqK13 (a b : Option Addr) (c c' : Nat) (s t : List CL) (hn : s.length ≤ 9223372036854775807) :
   Ct Tryz.prog 141 [.slice a s.length c, .slice b t.length c'] [] (fun w => Sees w (.slice a s.length c) 6 s.length (s.flatMap encK) ∧ Sees w (.slice b t.length c') 6 t.length (t.flatMap encK)) (fun r A' => r = .bool (decide (s = t)) ∧ A' = []) := by
 refine Ct.intro Tryz.func141 rfl Tryz.ntmps141 (lb rfl) fun w0 hpre => ?_
 have hs_a : Sees w0 _ _ _ _ := hpre.1
 have hs_b : Sees w0 _ _ _ _ := hpre.2
 refine go ?_
 by_cases h_1 : ((s.length : Nat) : Int) = ((t.length : Nat) : Int)
 · have hlen := h_1
   refine go ?_
   refine jL (fun k_ e_ L_ => ∃ j : Nat, (j ≤ s.length) ∧ (s.take j = t.take j) ∧ (s.length = t.length) ∧ EL e_ [(0, .slice a s.length c), (1, .slice b t.length c'), (12, nv s.length), (13, nv j)] ∧ L_ = [] ∧ k_ = s.length - j) _ ⟨0, by omega, rfl, by omega, EL.go, rfl, rfl⟩ ?_
   rintro _ _ _ ⟨j, hj, hE, hln, ⟨_, rfl⟩, rfl, rfl⟩
   refine go ?_
   by_cases h_2 : ((j : Nat) : Int) < ((s.length : Nat) : Int)
   · have hlt : j < s.length := by omega
     refine go ?_
     refine jH [] 8 ?_
     refine go ?_
     obtain ⟨hr_3, hr_3b, -⟩ := sees_some hs_a (by omega)
     refine go ?_
     refine jk 3 rfl (jj (vs := [iv (s.getD j k0).kind, str (s.getD j k0).name, str (s.getD j k0).to_, iv (s.getD j k0).a, iv (s.getD j k0).b, str (s.getD j k0).text]) hs_a nM rfl ki kX (flat_take encK_len k0 s j (by omega)) rfl (by decide)) ?_
     refine go ?_
     obtain ⟨hr_4, hr_4b, -⟩ := sees_some hs_b (by omega)
     refine go ?_
     refine jk 7 rfl (jj (vs := [iv (t.getD j k0).kind, str (t.getD j k0).name, str (t.getD j k0).to_, iv (t.getD j k0).a, iv (t.getD j k0).b, str (t.getD j k0).text]) hs_b nM rfl ki kX (flat_take encK_len k0 t j (by omega)) rfl (by decide)) <| jd 8 rfl (PO.neqK (s.getD j k0) (t.getD j k0) rfl rfl) ?_
     refine go ?_
     by_cases h_5 : s.getD j k0 = t.getD j k0
     · have heq := h_5
       refine go ?_
       refine jV (s.length - (j + 1)) (by omega) ⟨j + 1, by omega, take_succ_eq k0 hE hlt hln heq, hln, EL.go, rfl, rfl⟩
     have hne := h_5
     refine go ?_
     refine jE (.inl rfl) rfl (jC (v := .bool false) rfl) (List.nil_sublist _) ?_
     refine ⟨?_, rfl⟩
     rw [dF (fun h => hne (by rw [h]))]
   refine go ?_
   refine jE (.inl rfl) rfl (jC (v := .bool true) rfl) (List.nil_sublist _) ?_
   refine ⟨?_, rfl⟩
   rw [dT (take_all_eq hE (by omega) (by omega))]
 have hlen := h_1
 refine go ?_
 refine jE (.inl rfl) rfl (jC (v := .bool false) rfl) (List.nil_sublist _) ?_
 refine ⟨?_, rfl⟩
 rw [dF (fun h => by rw [h] at hlen; omega)]

theorem Y_eqI13 (a b : Option Addr) (c c' : Nat) (s t : List Int) (hn : s.length ≤ 9223372036854775807) :
   Ct Tryz.prog 143 [.slice a s.length c, .slice b t.length c'] [] (fun w => Sees w (.slice a s.length c) 1 s.length (s.map (Value.int .i64)) ∧ Sees w (.slice b t.length c') 1 t.length (t.map (Value.int .i64))) (fun r A' => r = .bool (decide (s = t)) ∧ A' = []) := by
 refine Ct.intro Tryz.func143 rfl Tryz.ntmps143 (lb rfl) fun w0 hpre => ?_
 have hs_a : Sees w0 _ _ _ _ := hpre.1
 have hs_b : Sees w0 _ _ _ _ := hpre.2
 refine go ?_
 by_cases h_1 : ((s.length : Nat) : Int) = ((t.length : Nat) : Int)
 · have hlen := h_1
   refine go ?_
   refine jL (fun k_ e_ L_ => ∃ j : Nat, (j ≤ s.length) ∧ (s.take j = t.take j) ∧ (s.length = t.length) ∧ EL e_ [(0, .slice a s.length c), (1, .slice b t.length c'), (12, nv s.length), (13, nv j)] ∧ L_ = [] ∧ k_ = s.length - j) _ ⟨0, by omega, rfl, by omega, EL.go, rfl, rfl⟩ ?_
   rintro _ _ _ ⟨j, hj, hE, hln, ⟨_, rfl⟩, rfl, rfl⟩
   refine go ?_
   by_cases h_2 : ((j : Nat) : Int) < ((s.length : Nat) : Int)
   · have hlt : j < s.length := by omega
     refine go ?_
     refine jH [] 8 ?_
     refine go ?_
     obtain ⟨hr_3, hr_3b, -⟩ := sees_some hs_a (by omega)
     refine go ?_
     refine jk 3 rfl (jY (v := iv (s.getD j 0)) hs_a nM rfl kR (atI (by omega))) ?_
     refine go ?_
     obtain ⟨hr_4, hr_4b, -⟩ := sees_some hs_b (by omega)
     refine go ?_
     refine jk 7 rfl (jY (v := iv (t.getD j 0)) hs_b nM rfl kR (atI (by omega))) ?_
     refine go ?_
     by_cases h_5 : (s.getD j 0) = (t.getD j 0)
     · have heq := h_5
       refine go ?_
       refine jV (s.length - (j + 1)) (by omega) ⟨j + 1, by omega, take_succ_eq 0 hE hlt hln heq, hln, EL.go, rfl, rfl⟩
     have hne := h_5
     refine go ?_
     refine jE (.inl rfl) rfl (jC (v := .bool false) rfl) (List.nil_sublist _) ?_
     refine ⟨?_, rfl⟩
     rw [dF (fun h => hne (by rw [h]))]
   refine go ?_
   refine jE (.inl rfl) rfl (jC (v := .bool true) rfl) (List.nil_sublist _) ?_
   refine ⟨?_, rfl⟩
   rw [dT (take_all_eq hE (by omega) (by omega))]
 have hlen := h_1
 refine go ?_
 refine jE (.inl rfl) rfl (jC (v := .bool false) rfl) (List.nil_sublist _) ?_
 refine ⟨?_, rfl⟩
 rw [dF (fun h => by rw [h] at hlen; omega)]

theorem Y_eqS13 (a b : Option Addr) (c c' : Nat) (s t : List Str) (hn : s.length ≤ 9223372036854775807) :
   Ct Tryz.prog 262 [.slice a s.length c, .slice b t.length c'] [] (fun w => Sees w (.slice a s.length c) 1 s.length (s.map str) ∧ Sees w (.slice b t.length c') 1 t.length (t.map str)) (fun r A' => r = .bool (decide (s = t)) ∧ A' = []) := by
 refine Ct.intro Tryz.func262 rfl Tryz.ntmps262 (lb rfl) fun w0 hpre => ?_
 have hs_a : Sees w0 _ _ _ _ := hpre.1
 have hs_b : Sees w0 _ _ _ _ := hpre.2
 refine go ?_
 by_cases h_1 : ((s.length : Nat) : Int) = ((t.length : Nat) : Int)
 · have hlen := h_1
   refine go ?_
   refine jL (fun k_ e_ L_ => ∃ j : Nat, (j ≤ s.length) ∧ (s.take j = t.take j) ∧ (s.length = t.length) ∧ EL e_ [(0, .slice a s.length c), (1, .slice b t.length c'), (12, nv s.length), (13, nv j)] ∧ L_ = [] ∧ k_ = s.length - j) _ ⟨0, by omega, rfl, by omega, EL.go, rfl, rfl⟩ ?_
   rintro _ _ _ ⟨j, hj, hE, hln, ⟨_, rfl⟩, rfl, rfl⟩
   refine go ?_
   by_cases h_2 : ((j : Nat) : Int) < ((s.length : Nat) : Int)
   · have hlt : j < s.length := by omega
     refine go ?_
     refine jH [] 8 ?_
     refine go ?_
     obtain ⟨hr_3, hr_3b, -⟩ := sees_some hs_a (by omega)
     refine go ?_
     refine jk 3 rfl (jY (v := str (s.getD j [])) hs_a nM rfl kJ (atS (by omega))) ?_
     refine go ?_
     obtain ⟨hr_4, hr_4b, -⟩ := sees_some hs_b (by omega)
     refine go ?_
     refine jk 7 rfl (jY (v := str (t.getD j [])) hs_b nM rfl kJ (atS (by omega))) ?_
     refine go ?_
     by_cases h_5 : (s.getD j []) = (t.getD j [])
     · have heq := h_5
       refine go ?_
       refine jV (s.length - (j + 1)) (by omega) ⟨j + 1, by omega, take_succ_eq [] hE hlt hln heq, hln, EL.go, rfl, rfl⟩
     have hne := h_5
     refine go ?_
     refine jE (.inl rfl) rfl (jC (v := .bool false) rfl) (List.nil_sublist _) ?_
     refine ⟨?_, rfl⟩
     rw [dF (fun h => hne (by rw [h]))]
   refine go ?_
   refine jE (.inl rfl) rfl (jC (v := .bool true) rfl) (List.nil_sublist _) ?_
   refine ⟨?_, rfl⟩
   rw [dT (take_all_eq hE (by omega) (by omega))]
 have hlen := h_1
 refine go ?_
 refine jE (.inl rfl) rfl (jC (v := .bool false) rfl) (List.nil_sublist _) ?_
 refine ⟨?_, rfl⟩
 rw [dF (fun h => by rw [h] at hlen; omega)]

theorem Y_eqA5 (a b : Option Addr) (c c' : Nat) (s t : List AN) (hn : s.length ≤ 9223372036854775807) :
   Ct Tryz.prog 138 [.slice a s.length c, .slice b t.length c'] [] (fun w => Sees w (.slice a s.length c) 3 s.length (s.flatMap encA) ∧ Sees w (.slice b t.length c') 3 t.length (t.flatMap encA)) (fun r A' => r = .bool (decide (s = t)) ∧ A' = []) := by
 refine Ct.intro Tryz.func138 rfl Tryz.ntmps138 (lb rfl) fun w0 hpre => ?_
 have hs_a : Sees w0 _ _ _ _ := hpre.1
 have hs_b : Sees w0 _ _ _ _ := hpre.2
 refine go ?_
 by_cases h_1 : ((s.length : Nat) : Int) = ((t.length : Nat) : Int)
 · have hlen := h_1
   refine go ?_
   refine jL (fun k_ e_ L_ => ∃ j : Nat, (j ≤ s.length) ∧ (s.take j = t.take j) ∧ (s.length = t.length) ∧ EL e_ [(0, .slice a s.length c), (1, .slice b t.length c'), (5, nv j)] ∧ L_ = [] ∧ k_ = s.length - j) _ ⟨0, by omega, rfl, by omega, EL.go, rfl, rfl⟩ ?_
   rintro _ _ _ ⟨j, hj, hE, hln, ⟨_, rfl⟩, rfl, rfl⟩
   refine go ?_
   by_cases h_2 : ((j : Nat) : Int) < ((s.length : Nat) : Int)
   · have hlt : j < s.length := by omega
     refine go ?_
     refine jH [] 8 ?_
     refine go ?_
     obtain ⟨hr_3, hr_3b, -⟩ := sees_some hs_a (by omega)
     refine go ?_
     refine jk 3 rfl (jj (vs := [iv (s.getD j a0_).code, iv (s.getD j a0_).n, str (s.getD j a0_).text]) hs_a nM rfl kp kY (flat_take encA_len a0_ s j (by omega)) rfl (by decide)) ?_
     refine go ?_
     obtain ⟨hr_4, hr_4b, -⟩ := sees_some hs_b (by omega)
     refine go ?_
     refine jk 7 rfl (jj (vs := [iv (t.getD j a0_).code, iv (t.getD j a0_).n, str (t.getD j a0_).text]) hs_b nM rfl kp kY (flat_take encA_len a0_ t j (by omega)) rfl (by decide)) <| jd 8 rfl (PO.neqA (s.getD j a0_) (t.getD j a0_) rfl rfl) ?_
     refine go ?_
     by_cases h_5 : s.getD j a0_ = t.getD j a0_
     · have heq := h_5
       refine go ?_
       refine jV (s.length - (j + 1)) (by omega) ⟨j + 1, by omega, take_succ_eq a0_ hE hlt hln heq, hln, EL.go, rfl, rfl⟩
     have hne := h_5
     refine go ?_
     refine jE (.inl rfl) rfl (jC (v := .bool false) rfl) (List.nil_sublist _) ?_
     refine ⟨?_, rfl⟩
     rw [dF (fun h => hne (by rw [h]))]
   refine go ?_
   refine jE (.inl rfl) rfl (jC (v := .bool true) rfl) (List.nil_sublist _) ?_
   refine ⟨?_, rfl⟩
   rw [dT (take_all_eq hE (by omega) (by omega))]
 have hlen := h_1
 refine go ?_
 refine jE (.inl rfl) rfl (jC (v := .bool false) rfl) (List.nil_sublist _) ?_
 refine ⟨?_, rfl⟩
 rw [dF (fun h => by rw [h] at hlen; omega)]

theorem Y_eqP5 (a b : Option Addr) (c c' : Nat) (s t : List SP) (hn : s.length ≤ 9223372036854775807) :
   Ct Tryz.prog 47 [.slice a s.length c, .slice b t.length c'] [] (fun w => Sees w (.slice a s.length c) 7 s.length (s.flatMap encP) ∧ Sees w (.slice b t.length c') 7 t.length (t.flatMap encP)) (fun r A' => r = .bool (decide (s = t)) ∧ A' = []) := by
 refine Ct.intro Tryz.func47 rfl Tryz.ntmps47 (lb rfl) fun w0 hpre => ?_
 have hs_a : Sees w0 _ _ _ _ := hpre.1
 have hs_b : Sees w0 _ _ _ _ := hpre.2
 refine go ?_
 by_cases h_1 : ((s.length : Nat) : Int) = ((t.length : Nat) : Int)
 · have hlen := h_1
   refine go ?_
   refine jL (fun k_ e_ L_ => ∃ j : Nat, (j ≤ s.length) ∧ (s.take j = t.take j) ∧ (s.length = t.length) ∧ EL e_ [(0, .slice a s.length c), (1, .slice b t.length c'), (5, nv j)] ∧ L_ = [] ∧ k_ = s.length - j) _ ⟨0, by omega, rfl, by omega, EL.go, rfl, rfl⟩ ?_
   rintro _ _ _ ⟨j, hj, hE, hln, ⟨_, rfl⟩, rfl, rfl⟩
   refine go ?_
   by_cases h_2 : ((j : Nat) : Int) < ((s.length : Nat) : Int)
   · have hlt : j < s.length := by omega
     refine go ?_
     refine jH [] 8 ?_
     refine go ?_
     obtain ⟨hr_3, hr_3b, -⟩ := sees_some hs_a (by omega)
     refine go ?_
     refine jk 3 rfl (jj (vs := [iv (s.getD j p0_).proc, iv (s.getD j p0_).call.kind, str (s.getD j p0_).call.name, str (s.getD j p0_).call.to_, iv (s.getD j p0_).call.a, iv (s.getD j p0_).call.b, str (s.getD j p0_).call.text]) hs_a nM rfl Tryz.isAgg45 ks (flat_take encP_len p0_ s j (by omega)) rfl (by decide)) ?_
     refine go ?_
     obtain ⟨hr_4, hr_4b, -⟩ := sees_some hs_b (by omega)
     refine go ?_
     refine jk 7 rfl (jj (vs := [iv (t.getD j p0_).proc, iv (t.getD j p0_).call.kind, str (t.getD j p0_).call.name, str (t.getD j p0_).call.to_, iv (t.getD j p0_).call.a, iv (t.getD j p0_).call.b, str (t.getD j p0_).call.text]) hs_b nM rfl Tryz.isAgg45 ks (flat_take encP_len p0_ t j (by omega)) rfl (by decide)) <| jd 8 rfl (PO.neqP (s.getD j p0_) (t.getD j p0_) rfl rfl) ?_
     refine go ?_
     by_cases h_5 : s.getD j p0_ = t.getD j p0_
     · have heq := h_5
       refine go ?_
       refine jV (s.length - (j + 1)) (by omega) ⟨j + 1, by omega, take_succ_eq p0_ hE hlt hln heq, hln, EL.go, rfl, rfl⟩
     have hne := h_5
     refine go ?_
     refine jE (.inl rfl) rfl (jC (v := .bool false) rfl) (List.nil_sublist _) ?_
     refine ⟨?_, rfl⟩
     rw [dF (fun h => hne (by rw [h]))]
   refine go ?_
   refine jE (.inl rfl) rfl (jC (v := .bool true) rfl) (List.nil_sublist _) ?_
   refine ⟨?_, rfl⟩
   rw [dT (take_all_eq hE (by omega) (by omega))]
 have hlen := h_1
 refine go ?_
 refine jE (.inl rfl) rfl (jC (v := .bool false) rfl) (List.nil_sublist _) ?_
 refine ⟨?_, rfl⟩
 rw [dF (fun h => by rw [h] at hlen; omega)]

set_option maxRecDepth 4000 in
theorem Y_sameTouch (a1 : Option Addr) (c1 : Nat) (r : List Str) (a2 : Option Addr) (c2 : Nat) (w : List Str) (b1 : Option Addr) (d1 : Nat) (r' : List Str) (b2 : Option Addr) (d2 : Nat) (w' : List Str) (h1 : r.length ≤ 1000000000) (h2 : w.length ≤ 1000000000) :
   Ct Tryz.prog 142 [.agg #[.slice a1 r.length c1, .slice a2 w.length c2], .agg #[.slice b1 r'.length d1, .slice b2 w'.length d2]] [] (fun w_ => Sees w_ (.slice a1 r.length c1) 1 r.length (r.map str) ∧ Sees w_ (.slice a2 w.length c2) 1 w.length (w.map str) ∧ Sees w_ (.slice b1 r'.length d1) 1 r'.length (r'.map str) ∧ Sees w_ (.slice b2 w'.length d2) 1 w'.length (w'.map str)) (fun v A' => v = .bool (decide (r = r') && decide (w = w')) ∧ A' = []) := by
 refine Ct.intro Tryz.func142 rfl Tryz.ntmps142 (lb rfl) fun w0 hpre => ?_
 have hs_a1 : Sees w0 _ _ _ _ := hpre.1
 have hs_a2 : Sees w0 _ _ _ _ := hpre.2.1
 have hs_b1 : Sees w0 _ _ _ _ := hpre.2.2.1
 have hs_b2 : Sees w0 _ _ _ _ := hpre.2.2.2
 refine go ?_
 refine jM [.slice a1 r.length c1, .slice a2 w.length c2] fun b_1 => ?_
 refine jM [.slice b1 r'.length d1, .slice b2 w'.length d2] fun b_2 => ?_
 refine go ?_
 refine jN [] (Y_eqS13 a1 b1 c1 d1 r r' (by omega)) (hpre := fun w_ hw_ => ⟨hw_.seeOut_ hs_a1 nM, hw_.seeOut_ hs_b1 nM⟩) ?_
 refine go ?_
 by_cases h_3 : r = r'
 · refine go ?_
   refine jW rfl rfl rfl (cB (dT h_3)) (jO [] Tryz.call262 rfl (Y_eqS13 a2 b2 c2 d2 w w' (by omega)) rfl (fun w_ hw_ => ⟨hw_.seeOut_ hs_a2 nM, hw_.seeOut_ hs_b2 nM⟩)) ?_
   rintro _ _ ⟨_, ⟨rfl, rfl⟩, rfl⟩
   refine go ?_
   refine jE (.inl rfl) rfl (jC (v := .bool (decide (w = w'))) rfl) (List.nil_sublist _) ?_
   exact ⟨cB (by simp_all), rfl⟩
 refine go ?_
 refine jE (.inl rfl) rfl (jC (v := .bool false) rfl) (List.nil_sublist _) ?_
 exact ⟨cB (by simp_all), rfl⟩

set_option maxRecDepth 4000 in
theorem Y_iSameTx (p q : TX) (hl : p.t.lim 1000000000) :
   Ct Tryz.prog 56 [.agg #[.int .i64 p.t.id, .int .i64 p.t.age, .int .i64 p.t.proc, .int .i64 p.t.began, .slice p.x.a0 p.t.calls.length p.x.c0, .slice p.x.a1 p.t.ans.length p.x.c1, .slice p.x.a2 p.t.rd.length p.x.c2, .slice p.x.a3 p.t.wr.length p.x.c3, .slice p.x.a4 p.t.marks.length p.x.c4, .int .i64 p.t.state], .agg #[.int .i64 q.t.id, .int .i64 q.t.age, .int .i64 q.t.proc, .int .i64 q.t.began, .slice q.x.a0 q.t.calls.length q.x.c0, .slice q.x.a1 q.t.ans.length q.x.c1, .slice q.x.a2 q.t.rd.length q.x.c2, .slice q.x.a3 q.t.wr.length q.x.c3, .slice q.x.a4 q.t.marks.length q.x.c4, .int .i64 q.t.state]] [] (fun w => SeesA w (rdsX p) ∧ SeesA w (rdsX q)) (fun v A' => v = .bool (decide (p.t = q.t)) ∧ A' = []) := by
 refine Ct.intro Tryz.func56 rfl Tryz.ntmps56 (lb rfl) fun w0 hpre => ?_
 obtain ⟨hs_1, hs_2, hs_3, hs_4, hs_5⟩ := seesX hpre.1
 obtain ⟨hs_6, hs_7, hs_8, hs_9, hs_10⟩ := seesX hpre.2
 obtain ⟨hl0_, hl1_, hl2_, hl3_, hl4_⟩ := id hl
 refine go ?_
 refine jM (xc p) fun b_11 => ?_
 refine jM (xc q) fun b_12 => ?_
 refine go ?_
 by_cases h_13 : p.t.id = q.t.id
 · refine go ?_
   by_cases h_14 : p.t.age = q.t.age
   · refine go ?_
     by_cases h_15 : p.t.proc = q.t.proc
     · refine go ?_
       by_cases h_16 : p.t.began = q.t.began
       · refine go ?_
         by_cases h_17 : p.t.state = q.t.state
         · refine go ?_
           refine jW rfl rfl rfl (cB (dT h_17)) (jO [] Tryz.call141 rfl (Y_eqK13 p.x.a0 q.x.a0 p.x.c0 q.x.c0 p.t.calls q.t.calls (by omega)) rfl (fun w hw => ⟨hw.seeOut_ hs_1 nM, hw.seeOut_ hs_6 nM⟩)) ?_
           rintro _ _ ⟨_, ⟨rfl, rfl⟩, rfl⟩
           refine go ?_
           by_cases h_18 : p.t.calls = q.t.calls
           · refine go ?_
             refine jW rfl rfl rfl (cB (dT h_18)) (jO [] Tryz.call136 rfl (Y_sameAnswers p.x.a1 q.x.a1 p.x.c1 q.x.c1 p.t.ans q.t.ans (by omega)) rfl (fun w hw => ⟨hw.seeOut_ hs_2 nM, hw.seeOut_ hs_7 nM⟩)) ?_
             rintro _ _ ⟨_, ⟨rfl, rfl⟩, rfl⟩
             refine go ?_
             by_cases h_19 : p.t.ans = q.t.ans
             · refine go ?_
               refine jW rfl rfl rfl (cB (dT h_19)) (jO [] Tryz.call142 rfl (Y_sameTouch p.x.a2 p.x.c2 p.t.rd p.x.a3 p.x.c3 p.t.wr q.x.a2 q.x.c2 q.t.rd q.x.a3 q.x.c3 q.t.wr (by omega) (by omega)) rfl (fun w hw => ⟨hw.seeOut_ hs_3 nM, hw.seeOut_ hs_4 nM, hw.seeOut_ hs_8 nM, hw.seeOut_ hs_9 nM⟩)) ?_
               rintro _ _ ⟨_, ⟨rfl, rfl⟩, rfl⟩
               refine go ?_
               rcases Bool.eq_false_or_eq_true ((decide (p.t.rd = q.t.rd) && decide (p.t.wr = q.t.wr))) with h_20 | h_20
               · have h_20d := h_20
                 simp only [Bool.and_eq_true, Bool.and_eq_false_iff, decide_eq_true_eq, decide_eq_false_iff_not] at h_20d
                 refine go ?_
                 refine jW rfl rfl rfl (cB h_20) (jO [] Tryz.call143 rfl (Y_eqI13 p.x.a4 q.x.a4 p.x.c4 q.x.c4 p.t.marks q.t.marks (by omega)) rfl (fun w hw => ⟨hw.seeOut_ hs_5 nM, hw.seeOut_ hs_10 nM⟩)) ?_
                 rintro _ _ ⟨_, ⟨rfl, rfl⟩, rfl⟩
                 refine go ?_
                 refine jE (.inl rfl) rfl (jC (v := .bool (decide (p.t.marks = q.t.marks))) rfl) (List.nil_sublist _) ?_
                 refine ⟨cB (decide_eq_decide.2 ?_), rfl⟩
                 rw [sameTD]
                 simp_all
               have h_20d := h_20
               simp only [Bool.and_eq_true, Bool.and_eq_false_iff, decide_eq_true_eq, decide_eq_false_iff_not] at h_20d
               refine go ?_
               refine jE (.inl rfl) rfl (jC (v := .bool false) rfl) (List.nil_sublist _) ?_
               refine ⟨cB (dF (fun h_ => ?_)).symm, rfl⟩
               obtain ⟨g0_, g1_, g2_, g3_, g4_, g5_, g6_, g7_, g8_, g9_⟩ := sameTD.1 h_
               first | contradiction | simp_all
             refine go ?_
             refine jE (.inl rfl) rfl (jC (v := .bool false) rfl) (List.nil_sublist _) ?_
             refine ⟨cB (dF (fun h_ => ?_)).symm, rfl⟩
             obtain ⟨g0_, g1_, g2_, g3_, g4_, g5_, g6_, g7_, g8_, g9_⟩ := sameTD.1 h_
             first | contradiction | simp_all
           refine go ?_
           refine jE (.inl rfl) rfl (jC (v := .bool false) rfl) (List.nil_sublist _) ?_
           refine ⟨cB (dF (fun h_ => ?_)).symm, rfl⟩
           obtain ⟨g0_, g1_, g2_, g3_, g4_, g5_, g6_, g7_, g8_, g9_⟩ := sameTD.1 h_
           first | contradiction | simp_all
         refine go ?_
         refine jE (.inl rfl) rfl (jC (v := .bool false) rfl) (List.nil_sublist _) ?_
         refine ⟨cB (dF (fun h_ => ?_)).symm, rfl⟩
         obtain ⟨g0_, g1_, g2_, g3_, g4_, g5_, g6_, g7_, g8_, g9_⟩ := sameTD.1 h_
         first | contradiction | simp_all
       refine go ?_
       refine jE (.inl rfl) rfl (jC (v := .bool false) rfl) (List.nil_sublist _) ?_
       refine ⟨cB (dF (fun h_ => ?_)).symm, rfl⟩
       obtain ⟨g0_, g1_, g2_, g3_, g4_, g5_, g6_, g7_, g8_, g9_⟩ := sameTD.1 h_
       first | contradiction | simp_all
     refine go ?_
     refine jE (.inl rfl) rfl (jC (v := .bool false) rfl) (List.nil_sublist _) ?_
     refine ⟨cB (dF (fun h_ => ?_)).symm, rfl⟩
     obtain ⟨g0_, g1_, g2_, g3_, g4_, g5_, g6_, g7_, g8_, g9_⟩ := sameTD.1 h_
     first | contradiction | simp_all
   refine go ?_
   refine jE (.inl rfl) rfl (jC (v := .bool false) rfl) (List.nil_sublist _) ?_
   refine ⟨cB (dF (fun h_ => ?_)).symm, rfl⟩
   obtain ⟨g0_, g1_, g2_, g3_, g4_, g5_, g6_, g7_, g8_, g9_⟩ := sameTD.1 h_
   first | contradiction | simp_all
 refine go ?_
 refine jE (.inl rfl) rfl (jC (v := .bool false) rfl) (List.nil_sublist _) ?_
 refine ⟨cB (dF (fun h_ => ?_)).symm, rfl⟩
 obtain ⟨g0_, g1_, g2_, g3_, g4_, g5_, g6_, g7_, g8_, g9_⟩ := sameTD.1 h_
 first | contradiction | simp_all
end Go.Proofs.YthlfmbbaomdciaaGreatDoor
namespace Go.Proofs.YthlfmbbaomdciaaGreatDoor
open Go Go.RowKit
attribute [local irreducible] JL JC JQ JO LO PO JA JX Ct
theorem Y_within17 (a : Option Addr) (c : Nat) (s : List Str) (hns : s.length ≤ 1000000000) (b : Option Addr) (d : Nat) (y : List Str) (hny : y.length ≤ 1000000000) :
   Ct Tryz.prog 139 [.slice a s.length c, .slice b y.length d] [] (fun w => Sees w (.slice a s.length c) 1 s.length (s.map str) ∧ Sees w (.slice b y.length d) 1 y.length (y.map str)) (fun v A' => v = .bool (inAll s y) ∧ A' = []) := by
 refine Ct.intro Tryz.func139 rfl Tryz.ntmps139 (lb rfl) fun w0 hpre => ?_
 have hs_a : Sees w0 _ _ _ _ := hpre.1
 have hs_b : Sees w0 _ _ _ _ := hpre.2
 refine go ?_
 refine jL (fun k_ e_ L_ => ∃ j : Nat, (j ≤ s.length) ∧ (∀ i, i < j → (y.any fun q => decide (s.getD i [] = q)) = true) ∧ EL e_ [(0, .slice a s.length c), (1, .slice b y.length d), (5, nv j)] ∧ L_ = [] ∧ k_ = s.length - j) _ ⟨0, by omega, (fun i hi => absurd hi (Nat.not_lt_zero i)), EL.go, rfl, rfl⟩ ?_
 rintro _ _ _ ⟨j, hj, hN, ⟨_, rfl⟩, rfl, rfl⟩
 refine go ?_
 by_cases h_1 : ((j : Nat) : Int) < ((s.length : Nat) : Int)
 · have hlt : j < s.length := by omega
   have hlt : j < s.length := by omega
   refine go ?_
   refine jL (fun k_ e_ L_ => ∃ k2 : Nat, ∃ b_ : Bool, (k2 ≤ y.length) ∧ (b_ = ((y.take k2).any fun q => decide (s.getD j [] = q))) ∧ EL e_ [(0, .slice a s.length c), (1, .slice b y.length d), (5, nv j), (6, .bool b_), (7, nv k2)] ∧ L_ = [] ∧ k_ = y.length - k2) _ ⟨0, false, by omega, rfl, EL.go, rfl, rfl⟩ ?_
   rintro _ _ _ ⟨k2, b_, hk2, hb, ⟨_, rfl⟩, rfl, rfl⟩
   refine go ?_
   by_cases h_2 : ((k2 : Nat) : Int) < ((y.length : Nat) : Int)
   · have hlt2 : k2 < y.length := by omega
     refine go ?_
     refine jH [] 12 ?_
     refine go ?_
     rcases Bool.eq_false_or_eq_true (b_) with h_3 | h_3
     · refine go ?_
       refine jV (y.length - (k2 + 1)) (by omega) ⟨k2 + 1, true, by omega, (by rw [any_step hlt2, ← hb]; simp_all), EL.go, rfl, rfl⟩
     refine go ?_
     obtain ⟨hr_4, hr_4b, -⟩ := sees_some hs_a (by omega)
     refine go ?_
     refine kG 5 rfl (by kernel_rfl) (NP.bl (NP.th (NP.th (NP.bl (NP.th (NP.bl (NP.th (NP.th (NP.bl (NP.th NP.body)))))))))) (by kernel_rfl) (by kernel_rfl) (by kernel_rfl) rfl rfl rfl (cB h_3) (jY (v := str (s.getD j [])) hs_a nM rfl kJ (atS (by omega))) ?_
     refine go ?_
     obtain ⟨hr_5, hr_5b, -⟩ := sees_some hs_b (by omega)
     refine go ?_
     refine kG 9 rfl (by kernel_rfl) (NP.bl (NP.th (NP.th (NP.bl (NP.th (NP.bl (NP.th (NP.th (NP.bl (NP.th NP.body)))))))))) (by kernel_rfl) (by kernel_rfl) (by kernel_rfl) rfl rfl rfl (cB h_3) (jY (v := str (y.getD k2 [])) hs_b nM rfl kJ (atS (by omega))) ?_
     refine go ?_
     refine jV (y.length - (k2 + 1)) (by omega) ⟨k2 + 1, (decide ((s.getD j []) = (y.getD k2 []))), by omega, (by rw [any_step hlt2, ← hb]; simp_all), EL.go, rfl, rfl⟩
   rw [List.take_of_length_le (by omega)] at hb
   refine go ?_
   rcases Bool.eq_false_or_eq_true (b_) with h_6 | h_6
   · refine go ?_
     refine jV (s.length - (j + 1)) (by omega) ⟨j + 1, by omega, (fun i hi => if h : i = j then h ▸ (by rw [← hb]; simp_all) else hN i (by omega)), EL.go, rfl, rfl⟩
   refine go ?_
   refine jE (.inl rfl) rfl (jC (v := .bool false) rfl) (List.nil_sublist _) ?_
   exact ⟨cB (inAll_false hlt (by rw [← hb]; simp_all)).symm, rfl⟩
 refine go ?_
 refine jE (.inl rfl) rfl (jC (v := .bool true) rfl) (List.nil_sublist _) ?_
 exact ⟨cB (inAll_true (by omega) hN).symm, rfl⟩

set_option maxRecDepth 4000 in
theorem Y_sRight (p : TX) (hl : p.t.lim 500000000) (sa : Option Addr) (sc : Nat) (s : List Cell) (n : Nat) (hO : okC' n 1048576 s) (hn : n ≤ 28000000) (hc : okT p.t) (hg : gro n p.t.calls.length ≤ 28000000) (hgT : groT n 0 p.t.calls.length ≤ 1000000000) :
   Ct Tryz.prog 51 [.slice sa s.length sc, .agg #[.int .i64 p.t.id, .int .i64 p.t.age, .int .i64 p.t.proc, .int .i64 p.t.began, .slice p.x.a0 p.t.calls.length p.x.c0, .slice p.x.a1 p.t.ans.length p.x.c1, .slice p.x.a2 p.t.rd.length p.x.c2, .slice p.x.a3 p.t.wr.length p.x.c3, .slice p.x.a4 p.t.marks.length p.x.c4, .int .i64 p.t.state]] [] (fun w => Sees w (.slice sa s.length sc) 2 s.length (s.flatMap encC) ∧ SeesA w (rdsX p)) (fun v A' => v = .bool (rightL s p.t) ∧ A' = []) := by
 have hlv := hl
 refine Ct.intro Tryz.func51 rfl Tryz.ntmps51 (lb rfl) fun w0 hpre => ?_
 have hs_s : Sees w0 _ _ _ _ := hpre.1
 have hl := hl.mono (show 500000000 ≤ 1000000000 by decide)
 obtain ⟨hs_1, hs_2, hs_3, hs_4, hs_5⟩ := seesX hpre.2
 have hlp := hl
 obtain ⟨hl0_, hl1_, hl2_, hl3_, hl4_⟩ := id hl
 have hO1 := hO.1
 have hsl : (stepsOf p.t).length = p.t.calls.length := List.length_map _
 have hsP := okSteps_of hc
 have hcp := hc.pr
 have hcn := hc.n
 obtain ⟨hq0, hq1, hq2, hq3, hq4⟩ := id hlv
 have hgT5 : sumT (gro n) 0 (stepsOf p.t).length ≤ 1000000000 := by rw [hsl]; exact hgT
 refine go ?_
 refine jM (xc p) fun b_6 => ?_
 refine go ?_
 refine jA [] (Y_sTxSteps p hlp) (hpre := fun w hw => hw.seeOutA hpre.2 nMA) ?_
 rintro _ _ ⟨a_7, c_8, rfl, rfl⟩
 refine jA [] (D_run15 sa sc s a_7 c_8 (stepsOf p.t) (by have hl_ := (hO).1; omega) (by omega) hO (by omega) hsP (gro n) (run_gro1 hO.1 p.t) (fun j hj => Nat.le_trans (gro_le n hj) (by rw [hsl]; exact hg)) (by rw [hsl]; exact hgT)) (hpre := fun w hw => ⟨hw.seeOut_ hs_s nM, hw.see (i := 0) rfl⟩) ?_
 rintro _ _ ⟨a_9, c_10, v_11, a_12, c_13, o_14, a_15, c_16, r_17, a_18, c_19, w_20, e_21, hO_22, hl_23, ht_24, rfl, rfl⟩
 refine go ?_
 refine jG [.slice none 0 0, .slice none 0 0] fun b_25 => ?_
 refine go ?_
 refine jD 0 [.slice a_15 r_17.length c_16, .slice a_18 w_20.length c_19] ?_
 refine go ?_
 refine jN [] (Y_eqA5 a_12 p.x.a1 c_13 p.x.c1 o_14 p.t.ans (by omega)) (hpre := fun w hw => ⟨hw.see (i := 2) rfl, hw.seeOut_ hs_2 nM⟩) ?_
 refine go ?_
 by_cases h_26 : o_14 = p.t.ans
 · refine go ?_
   refine jW rfl rfl rfl (cB (dT h_26)) (jO [] Tryz.call139 rfl (Y_within17 a_15 c_16 r_17 (by omega) p.x.a2 p.x.c2 p.t.rd (by omega)) rfl (fun w hw => ⟨hw.see (i := 3) rfl, hw.seeOut_ hs_3 nM⟩)) ?_
   rintro _ _ ⟨_, ⟨rfl, rfl⟩, rfl⟩
   refine go ?_
   rcases Bool.eq_false_or_eq_true (inAll r_17 p.t.rd) with h_27 | h_27
   · refine go ?_
     refine jW rfl rfl rfl (cB h_27) (jO [] Tryz.call139 rfl (Y_within17 a_18 c_19 w_20 (by omega) p.x.a3 p.x.c3 p.t.wr (by omega)) rfl (fun w hw => ⟨hw.see (i := 4) rfl, hw.seeOut_ hs_4 nM⟩)) ?_
     rintro _ _ ⟨_, ⟨rfl, rfl⟩, rfl⟩
     refine go ?_
     refine jE (.inl rfl) rfl (jC (v := .bool (inAll w_20 p.t.wr)) rfl) (List.nil_sublist _) ?_
     refine ⟨cB (Eq.symm ?_), rfl⟩
     unfold rightL
     simp only [e_21]
     simp_all
   refine go ?_
   refine jE (.inl rfl) rfl (jC (v := .bool false) rfl) (List.nil_sublist _) ?_
   refine ⟨cB (Eq.symm ?_), rfl⟩
   unfold rightL
   simp only [e_21]
   simp_all
 refine go ?_
 refine jE (.inl rfl) rfl (jC (v := .bool false) rfl) (List.nil_sublist _) ?_
 refine ⟨cB (Eq.symm ?_), rfl⟩
 unfold rightL
 simp only [e_21]
 simp_all
set_option maxRecDepth 4000 in
theorem D_dTxRight (pa : Option Addr) (pc : Nat) (p : Str) (hp : p.length ≤ 1048576) :
   Ct Tryz.prog 52 [.slice pa p.length pc] [] (fun w => Sees w (.slice pa p.length pc) 1 p.length (p.map encB)) (fun v A' => ∃ a c s' z, okC' 10938 1048576 s' ∧ tInv 12 5 z.t ∧ v = .tuple #[.slice a s'.length c, .agg #[.int .i64 z.t.id, .int .i64 z.t.age, .int .i64 z.t.proc, .int .i64 z.t.began, .slice z.x.a0 z.t.calls.length z.x.c0, .slice z.x.a1 z.t.ans.length z.x.c1, .slice z.x.a2 z.t.rd.length z.x.c2, .slice z.x.a3 z.t.wr.length z.x.c3, .slice z.x.a4 z.t.marks.length z.x.c4, .int .i64 z.t.state]] ∧ A' = [rC a c s', .rows (rdsX z)]) := by
 refine Ct.intro Tryz.func52 rfl Tryz.ntmps52 (lb rfl) fun w0 hpre => ?_
 have hs_pa : Sees w0 _ _ _ _ := hpre
 refine go ?_
 refine jG xzc fun b_1 => ?_
 refine go ?_
 refine jA [] (D_case17 pa pc p (by omega)) (hpre := fun w hw => hw.seeOut_ hs_pa nM) ?_
 rintro _ _ ⟨a_2, c_3, l_4, z_5, hO_6, hd_7, rfl, rfl⟩
 refine go ?_
 refine jD 2 (xc z_5) ?_
 refine go ?_
 exact jQ [0, 0] ⟨a_2, c_3, l_4, z_5, hO_6, hd_7, rfl, rfl⟩

theorem D_dTxNew (pa : Option Addr) (pc : Nat) (p : Str) (hp : p.length ≤ 1048577)  :
   Ct Tryz.prog 53 [.slice pa p.length pc] [] (fun w => Sees w (.slice pa p.length pc) 1 p.length (p.map encB)) (fun v A' => ∃ r0 r1 r2, (0 ≤ r0 ∧ r0 ≤ 9) ∧ (0 ≤ r1 ∧ r1 ≤ 9) ∧ (0 ≤ r2 ∧ r2 ≤ 9) ∧ v = .tuple #[.int .i64 r0, .int .i64 r1, .int .i64 r2] ∧ A' = []) := by
 refine Ct.intro Tryz.func53 rfl Tryz.ntmps53 (lb rfl) fun w0 hpre => ?_
 have hs_pa : Sees w0 _ _ _ _ := hpre
 refine go ?_
 refine jA [] (D_new pa pc p (by omega)) (hpre := fun w hw => hw.seeOut_ hs_pa nM) ?_
 rintro _ _ ⟨c_1, qs_2, -, rfl, rfl⟩
 refine go ?_
 refine jA [0] (D_below c_1 pa pc p 0 qs_2 (by omega) (by omega) 9 (by omega)) (hpre := fun w hw => ⟨hw.seeOut_ hs_pa nM, hw.apart hs_pa nM (by simp)⟩) ?_
 rintro _ _ ⟨qp_4, qs_5, n_7, fq_6, f_8, rfl, rfl⟩
 refine go ?_
 refine jA [0] (D_below c_1 pa pc p qp_4 qs_5 (by omega) (by omega) 9 (by omega)) (hpre := fun w hw => ⟨hw.seeOut_ hs_pa nM, hw.apart hs_pa nM (by simp)⟩) ?_
 rintro _ _ ⟨qp_10, qs_11, n_13, fq_12, f_14, rfl, rfl⟩
 refine go ?_
 refine jA [0] (D_below c_1 pa pc p qp_10 qs_11 (by omega) (by omega) 4 (by omega)) (hpre := fun w hw => ⟨hw.seeOut_ hs_pa nM, hw.apart hs_pa nM (by simp)⟩) ?_
 rintro _ _ ⟨qp_16, qs_17, n_19, fq_18, f_20, rfl, rfl⟩
 refine go ?_
 exact jt [] ⟨((n_7 : Nat) : Int), ((n_13 : Nat) : Int), ((n_19 : Nat) : Int), (by omega), (by omega), (by omega), rfl, rfl⟩

set_option maxRecDepth 4000 in
theorem D_dSameTx (pa : Option Addr) (pc : Nat) (p : Str) (hp : p.length ≤ 1048576) :
   Ct Tryz.prog 54 [.slice pa p.length pc] [] (fun w => Sees w (.slice pa p.length pc) 1 p.length (p.map encB)) (fun v A' => ∃ y z, tInv 12 5 y.t ∧ z.t.lim 500000000 ∧ v = .tuple #[.agg #[.int .i64 y.t.id, .int .i64 y.t.age, .int .i64 y.t.proc, .int .i64 y.t.began, .slice y.x.a0 y.t.calls.length y.x.c0, .slice y.x.a1 y.t.ans.length y.x.c1, .slice y.x.a2 y.t.rd.length y.x.c2, .slice y.x.a3 y.t.wr.length y.x.c3, .slice y.x.a4 y.t.marks.length y.x.c4, .int .i64 y.t.state], .agg #[.int .i64 z.t.id, .int .i64 z.t.age, .int .i64 z.t.proc, .int .i64 z.t.began, .slice z.x.a0 z.t.calls.length z.x.c0, .slice z.x.a1 z.t.ans.length z.x.c1, .slice z.x.a2 z.t.rd.length z.x.c2, .slice z.x.a3 z.t.wr.length z.x.c3, .slice z.x.a4 z.t.marks.length z.x.c4, .int .i64 z.t.state]] ∧ A' = [.rows (rdsX y), .rows (rdsX z)]) := by
 refine Ct.intro Tryz.func54 rfl Tryz.ntmps54 (lb rfl) fun w0 hpre => ?_
 have hs_pa : Sees w0 _ _ _ _ := hpre
 refine go ?_
 refine jG xzc fun b_1 => ?_
 refine jG xzc fun b_2 => ?_
 refine go ?_
 refine jA [] (D_case17 pa pc p (by omega)) (hpre := fun w hw => hw.seeOut_ hs_pa nM) ?_
 rintro _ _ ⟨a_3, c_4, l_5, z_6, hO_7, hd_8, rfl, rfl⟩
 refine go ?_
 refine jG xzc fun b_9 => ?_
 refine go ?_
 refine jD 0 (xc z_6) ?_
 refine go ?_
 refine jA [] (D_new pa pc p (by omega)) (hpre := fun w hw => hw.seeOut_ hs_pa nM) ?_
 rintro _ _ ⟨c_10, qs_11, -, rfl, rfl⟩
 refine go ?_
 refine jA [] (Z_specl17Copy z_6 ((hd_8.lim (by decide) (by decide)).mono (show 500000000 ≤ 1000000000 by decide))) (hpre := fun w hw => hw.seeRows 3 rfl) ?_
 rintro _ _ ⟨y_13, hy_14, rfl, rfl⟩
 refine jG xzc fun b_15 => ?_
 refine jD 0 (xc y_13) ?_
 refine jb <| jT <| jc <| jc <| JC.ghost (L' := [Res.row (.slice y_13.x.a0 y_13.t.calls.length y_13.x.c0) 43 6 y_13.t.calls.length (y_13.t.calls.flatMap encK), Res.row (.slice y_13.x.a1 y_13.t.ans.length y_13.x.c1) 39 3 y_13.t.ans.length (y_13.t.ans.flatMap encA), rS y_13.x.a2 y_13.x.c2 y_13.t.rd, rS y_13.x.a3 y_13.x.c3 y_13.t.wr, rI y_13.x.a4 y_13.x.c4 y_13.t.marks, bk b_15 35 (xc y_13), cb c_10 pa pc p 0 qs_11, bk b_9 35 (xc z_6), rC a_3 c_4 l_5, Res.rows (rdsX z_6), bk b_2 35 xzc, bk b_1 35 xzc]) (fun w hw => hw.openR (A := rdsX y_13) 1 rfl) ?_
 have hA : tInv 12 5 y_13.t := by rw [hy_14]; exact hd_8
 obtain ⟨hAc, hAn, hAp, hAa, hAr, hAw, hAm, hAkr, hAkw, hAg⟩ := id hA
 refine go ?_
 refine jA [6] (D_below c_10 pa pc p 0 qs_11 (by omega) (by omega) 4 (by omega)) (hpre := fun w hw => ⟨hw.seeOut_ hs_pa nM, hw.apart hs_pa nM (by simp)⟩) ?_
 rintro _ _ ⟨qp_16, qs_17, n_19, fq_18, f_20, rfl, rfl⟩
 refine go ?_
 by_cases h_22 : ((n_19 : Nat) : Int) = 0
 · refine go ?_
   refine jD 6 [iv y_13.t.id, iv (y_13.t.age + 1), iv y_13.t.proc, iv y_13.t.began, .slice y_13.x.a0 y_13.t.calls.length y_13.x.c0, .slice y_13.x.a1 y_13.t.ans.length y_13.x.c1, .slice y_13.x.a2 y_13.t.rd.length y_13.x.c2, .slice y_13.x.a3 y_13.t.wr.length y_13.x.c3, .slice y_13.x.a4 y_13.t.marks.length y_13.x.c4, iv y_13.t.state] ?_
   refine go ?_
   refine jH [6, 6] 3 ?_
   refine go ?_
   refine jB (i := 2) ?_
   refine jp 11 (xc z_6) ?_
   refine jB (i := 3) ?_
   refine jS 10 [iv y_13.t.id, iv (y_13.t.age + 1), iv y_13.t.proc, iv y_13.t.began, .slice y_13.x.a0 y_13.t.calls.length y_13.x.c0, .slice y_13.x.a1 y_13.t.ans.length y_13.x.c1, .slice y_13.x.a2 y_13.t.rd.length y_13.x.c2, .slice y_13.x.a3 y_13.t.wr.length y_13.x.c3, .slice y_13.x.a4 y_13.t.marks.length y_13.x.c4, iv y_13.t.state] ?_
   refine jT <| jz ?_
   refine cloJ (rdsX (⟨⟨y_13.x.a0, y_13.x.c0, y_13.x.a1, y_13.x.c1, y_13.x.a2, y_13.x.c2, y_13.x.a3, y_13.x.c3, y_13.x.a4, y_13.x.c4⟩, ⟨y_13.t.id, y_13.t.age + 1, y_13.t.proc, y_13.t.began, y_13.t.calls, y_13.t.ans, y_13.t.rd, y_13.t.wr, y_13.t.marks, y_13.t.state⟩⟩ : TX)) [1, 1, 1, 1, 1] ?_
   exact jQ [5, 0] ⟨z_6, (⟨⟨y_13.x.a0, y_13.x.c0, y_13.x.a1, y_13.x.c1, y_13.x.a2, y_13.x.c2, y_13.x.a3, y_13.x.c3, y_13.x.a4, y_13.x.c4⟩, ⟨y_13.t.id, y_13.t.age + 1, y_13.t.proc, y_13.t.began, y_13.t.calls, y_13.t.ans, y_13.t.rd, y_13.t.wr, y_13.t.marks, y_13.t.state⟩⟩ : TX), hd_8, ⟨(by dsimp only; (try simp only [List.length_append, List.length_cons, List.length_nil]); omega), (by dsimp only; (try simp only [List.length_append, List.length_cons, List.length_nil]); omega), (by dsimp only; (try simp only [List.length_append, List.length_cons, List.length_nil]); omega), (by dsimp only; (try simp only [List.length_append, List.length_cons, List.length_nil]); omega), (by dsimp only; (try simp only [List.length_append, List.length_cons, List.length_nil]); omega)⟩, rfl, rfl⟩
 refine go ?_
 by_cases h_23 : ((n_19 : Nat) : Int) = 1
 · refine go ?_
   refine jA [0] (D_touch03 c_10 pa pc p qp_16 qs_17 (by omega) (by omega)) (hpre := fun w hw => ⟨hw.seeOut_ hs_pa nM, hw.apart hs_pa nM (by simp)⟩) ?_
   rintro _ _ ⟨qp_24, qs_25, T_27ra, T_27rc, T_27r, T_27wa, T_27wc, T_27w, fq_26, f_28, rfl, rfl⟩
   refine go ?_
   refine jD 8 [iv y_13.t.id, iv y_13.t.age, iv y_13.t.proc, iv y_13.t.began, .slice y_13.x.a0 y_13.t.calls.length y_13.x.c0, .slice y_13.x.a1 y_13.t.ans.length y_13.x.c1, .slice T_27ra T_27r.length T_27rc, .slice T_27wa T_27w.length T_27wc, .slice y_13.x.a4 y_13.t.marks.length y_13.x.c4, iv y_13.t.state] ?_
   refine go ?_
   refine jH [8, 8] 3 ?_
   refine go ?_
   refine jB (i := 2) ?_
   refine jp 13 (xc z_6) ?_
   refine jB (i := 3) ?_
   refine jS 12 [iv y_13.t.id, iv y_13.t.age, iv y_13.t.proc, iv y_13.t.began, .slice y_13.x.a0 y_13.t.calls.length y_13.x.c0, .slice y_13.x.a1 y_13.t.ans.length y_13.x.c1, .slice T_27ra T_27r.length T_27rc, .slice T_27wa T_27w.length T_27wc, .slice y_13.x.a4 y_13.t.marks.length y_13.x.c4, iv y_13.t.state] ?_
   refine jT <| jz ?_
   refine cloJ (rdsX (⟨⟨y_13.x.a0, y_13.x.c0, y_13.x.a1, y_13.x.c1, T_27ra, T_27rc, T_27wa, T_27wc, y_13.x.a4, y_13.x.c4⟩, ⟨y_13.t.id, y_13.t.age, y_13.t.proc, y_13.t.began, y_13.t.calls, y_13.t.ans, T_27r, T_27w, y_13.t.marks, y_13.t.state⟩⟩ : TX)) [3, 3, 1, 1, 3] ?_
   exact jQ [7, 0] ⟨z_6, (⟨⟨y_13.x.a0, y_13.x.c0, y_13.x.a1, y_13.x.c1, T_27ra, T_27rc, T_27wa, T_27wc, y_13.x.a4, y_13.x.c4⟩, ⟨y_13.t.id, y_13.t.age, y_13.t.proc, y_13.t.began, y_13.t.calls, y_13.t.ans, T_27r, T_27w, y_13.t.marks, y_13.t.state⟩⟩ : TX), hd_8, ⟨(by dsimp only; (try simp only [List.length_append, List.length_cons, List.length_nil]); omega), (by dsimp only; (try simp only [List.length_append, List.length_cons, List.length_nil]); omega), (by dsimp only; (try simp only [List.length_append, List.length_cons, List.length_nil]); omega), (by dsimp only; (try simp only [List.length_append, List.length_cons, List.length_nil]); omega), (by dsimp only; (try simp only [List.length_append, List.length_cons, List.length_nil]); omega)⟩, rfl, rfl⟩
 refine go ?_
 by_cases h_30 : ((n_19 : Nat) : Int) = 2
 · refine go ?_
   refine jF rfl (jR (ps := [(0, iv 1)]) (cur := #[iv 1]) kL kS kZ rfl (by kernel_rfl) (by decide) (by decide)) ?_
   rintro _ _ ⟨a_31, rfl, rfl⟩
   refine jF rfl (jX 6 (q := 1) (news := ([1] : List Int).map (Value.int .i64)) (n' := (y_13.t.marks ++ ([1] : List Int)).length) (cs' := (y_13.t.marks ++ ([1] : List Int)).map (Value.int .i64)) rfl kL kL kl rfl (by' := 8) rfl rfl rfl rfl rfl (fun w hw => Src.sees (hw.see (i := 0) rfl) (oneI _)) (by (try simp only [LE]); omega) (by (try simp only [LE]); omega) (by simp only [List.length_append, List.length_take, List.length_drop, List.length_cons, List.length_nil] <;> first | rfl | omega) (by simp only [List.map_append])) ?_
   rintro _ _ ⟨a_32, c_33, rfl, rfl⟩
   refine go ?_
   refine jD 7 [iv y_13.t.id, iv y_13.t.age, iv y_13.t.proc, iv y_13.t.began, .slice y_13.x.a0 y_13.t.calls.length y_13.x.c0, .slice y_13.x.a1 y_13.t.ans.length y_13.x.c1, .slice y_13.x.a2 y_13.t.rd.length y_13.x.c2, .slice y_13.x.a3 y_13.t.wr.length y_13.x.c3, .slice a_32 (y_13.t.marks ++ ([1] : List Int)).length c_33, iv y_13.t.state] ?_
   refine go ?_
   refine jH [7, 7] 3 ?_
   refine go ?_
   refine jB (i := 2) ?_
   refine jp 12 (xc z_6) ?_
   refine jB (i := 3) ?_
   refine jS 11 [iv y_13.t.id, iv y_13.t.age, iv y_13.t.proc, iv y_13.t.began, .slice y_13.x.a0 y_13.t.calls.length y_13.x.c0, .slice y_13.x.a1 y_13.t.ans.length y_13.x.c1, .slice y_13.x.a2 y_13.t.rd.length y_13.x.c2, .slice y_13.x.a3 y_13.t.wr.length y_13.x.c3, .slice a_32 (y_13.t.marks ++ ([1] : List Int)).length c_33, iv y_13.t.state] ?_
   refine jT <| jz ?_
   refine cloJ (rdsX (⟨⟨y_13.x.a0, y_13.x.c0, y_13.x.a1, y_13.x.c1, y_13.x.a2, y_13.x.c2, y_13.x.a3, y_13.x.c3, a_32, c_33⟩, ⟨y_13.t.id, y_13.t.age, y_13.t.proc, y_13.t.began, y_13.t.calls, y_13.t.ans, y_13.t.rd, y_13.t.wr, (y_13.t.marks ++ ([1] : List Int)), y_13.t.state⟩⟩ : TX)) [2, 2, 2, 2, 2] ?_
   exact jQ [6, 0] ⟨z_6, (⟨⟨y_13.x.a0, y_13.x.c0, y_13.x.a1, y_13.x.c1, y_13.x.a2, y_13.x.c2, y_13.x.a3, y_13.x.c3, a_32, c_33⟩, ⟨y_13.t.id, y_13.t.age, y_13.t.proc, y_13.t.began, y_13.t.calls, y_13.t.ans, y_13.t.rd, y_13.t.wr, (y_13.t.marks ++ ([1] : List Int)), y_13.t.state⟩⟩ : TX), hd_8, ⟨(by dsimp only; (try simp only [List.length_append, List.length_cons, List.length_nil]); omega), (by dsimp only; (try simp only [List.length_append, List.length_cons, List.length_nil]); omega), (by dsimp only; (try simp only [List.length_append, List.length_cons, List.length_nil]); omega), (by dsimp only; (try simp only [List.length_append, List.length_cons, List.length_nil]); omega), (by dsimp only; (try simp only [List.length_append, List.length_cons, List.length_nil]); omega)⟩, rfl, rfl⟩
 refine go ?_
 refine jH [6, 6] 3 ?_
 refine go ?_
 refine jB (i := 2) ?_
 refine jp 11 (xc z_6) ?_
 refine jB (i := 3) ?_
 refine jS 10 (xc y_13) ?_
 refine jT <| jz ?_
 refine cloJ (rdsX (⟨⟨y_13.x.a0, y_13.x.c0, y_13.x.a1, y_13.x.c1, y_13.x.a2, y_13.x.c2, y_13.x.a3, y_13.x.c3, y_13.x.a4, y_13.x.c4⟩, ⟨y_13.t.id, y_13.t.age, y_13.t.proc, y_13.t.began, y_13.t.calls, y_13.t.ans, y_13.t.rd, y_13.t.wr, y_13.t.marks, y_13.t.state⟩⟩ : TX)) [1, 1, 1, 1, 1] ?_
 exact jQ [5, 0] ⟨z_6, (⟨⟨y_13.x.a0, y_13.x.c0, y_13.x.a1, y_13.x.c1, y_13.x.a2, y_13.x.c2, y_13.x.a3, y_13.x.c3, y_13.x.a4, y_13.x.c4⟩, ⟨y_13.t.id, y_13.t.age, y_13.t.proc, y_13.t.began, y_13.t.calls, y_13.t.ans, y_13.t.rd, y_13.t.wr, y_13.t.marks, y_13.t.state⟩⟩ : TX), hd_8, ⟨(by dsimp only; (try simp only [List.length_append, List.length_cons, List.length_nil]); omega), (by dsimp only; (try simp only [List.length_append, List.length_cons, List.length_nil]); omega), (by dsimp only; (try simp only [List.length_append, List.length_cons, List.length_nil]); omega), (by dsimp only; (try simp only [List.length_append, List.length_cons, List.length_nil]); omega), (by dsimp only; (try simp only [List.length_append, List.length_cons, List.length_nil]); omega)⟩, rfl, rfl⟩
end Go.Proofs.YthlfmbbaomdciaaGreatDoor
