/-
  Texts of the walk, joined: what each one proves stands at its theorems.
-/
import Derived.Test.YtghfijncihbojaaGreatS65TX
import Derived.Test.YtghfijncihbojaaGreatS24DRAWS
import Derived.Test.YtghfijncihbojaaGreatS17NAMES
import Derived.Test.YtghfijncihbojaaGreatDatL
import Derived.Test.YtghfijncihbojaaGreatDatX
set_option linter.unusedSimpArgs false
set_option linter.unusedVariables false
set_option linter.unnecessarySimpa false
namespace Go.Proofs.YtghfijncihbojaaGreat
open Go Go.RowKit
theorem sameTD {a b : TD} : a = b ↔ a.id = b.id ∧ a.age = b.age ∧ a.proc = b.proc ∧ a.began = b.began ∧ a.calls = b.calls ∧ a.ans = b.ans ∧ a.rd = b.rd ∧ a.wr = b.wr ∧ a.marks = b.marks ∧ a.state = b.state := by cases a; cases b; simp
theorem underK : Tryz.prog.underlying 51 = some (.struct (Tryz.prog.fieldsOf 51)) := by kernel_rfl
theorem PO.neqK {n : Nat} {e : Env} {d : Option Tmp} {ty : TypeId} {pos : String} {aft : Array Edge} {gd : Option (Nat × Bool)} {x y : Operand} {u : TypeId} (a b : CL) (hx : rd n e x = .agg #[.int .i64 a.kind, str a.name, str a.to_, .int .i64 a.a, .int .i64 a.b, str a.text]) (hy : rd n e y = .agg #[.int .i64 b.kind, str b.name, str b.to_, .int .i64 b.a, .int .i64 b.b, str b.text]) : PO Tryz.prog n e ⟨d, .binOp .neq 51 x y u, ty, pos, aft, gd⟩ (.bool (!decide (a = b))) := fun w => by
  have he : (Op.equalIn 10000 51 (.agg #[.int .i64 a.kind, str a.name, str a.to_, .int .i64 a.a, .int .i64 a.b, str a.text]) (.agg #[.int .i64 b.kind, str b.name, str b.to_, .int .i64 b.a, .int .i64 b.b, str b.text])).run Tryz.prog w = .ok (decide (a = b)) w := by
    rw [run_equalIn_struct w 9999 51 _ _ underK Tryz.stoodInHeld51]
    rw [show (Tryz.prog.fieldsOf 51).toList = [⟨ "Kind", 3, 0, false, "", "", 0⟩, ⟨ "Name", 9, 1, false, "", "", 8⟩, ⟨ "To", 9, 2, false, "", "", 24⟩, ⟨ "A", 3, 3, false, "", "", 40⟩, ⟨ "\x42", 3, 4, false, "", "", 48⟩, ⟨ "Text", 9, 5, false, "", "", 56⟩] by kernel_rfl]
    have e0 : (Op.equalIn 9999 3 (.int .i64 a.kind) (.int .i64 b.kind)).run Tryz.prog w = .ok (decide (a.kind = b.kind)) w := by
      rw [run_equalIn_int w 9998 3 _ _ _ _ gg]
      simp [beq_dec]
    have p0 : ∀ c : CL, (part 3 #[.int .i64 c.kind, str c.name, str c.to_, .int .i64 c.a, .int .i64 c.b, str c.text] 0).run Tryz.prog w = .ok (.int .i64 c.kind) w := fun c => by simp [part, str]
    have e1 : (Op.equalIn 9999 9 (str a.name) (str b.name)).run Tryz.prog w = .ok (decide (a.name = b.name)) w := by
      simp only [str]
      rw [run_equalIn_string w 9998 9 _ _ ky]
      simp [beq_dec]
    have p1 : ∀ c : CL, (part 9 #[.int .i64 c.kind, str c.name, str c.to_, .int .i64 c.a, .int .i64 c.b, str c.text] 1).run Tryz.prog w = .ok (str c.name) w := fun c => by simp [part, str]
    have e2 : (Op.equalIn 9999 9 (str a.to_) (str b.to_)).run Tryz.prog w = .ok (decide (a.to_ = b.to_)) w := by
      simp only [str]
      rw [run_equalIn_string w 9998 9 _ _ ky]
      simp [beq_dec]
    have p2 : ∀ c : CL, (part 9 #[.int .i64 c.kind, str c.name, str c.to_, .int .i64 c.a, .int .i64 c.b, str c.text] 2).run Tryz.prog w = .ok (str c.to_) w := fun c => by simp [part, str]
    have e3 : (Op.equalIn 9999 3 (.int .i64 a.a) (.int .i64 b.a)).run Tryz.prog w = .ok (decide (a.a = b.a)) w := by
      rw [run_equalIn_int w 9998 3 _ _ _ _ gg]
      simp [beq_dec]
    have p3 : ∀ c : CL, (part 3 #[.int .i64 c.kind, str c.name, str c.to_, .int .i64 c.a, .int .i64 c.b, str c.text] 3).run Tryz.prog w = .ok (.int .i64 c.a) w := fun c => by simp [part, str]
    have e4 : (Op.equalIn 9999 3 (.int .i64 a.b) (.int .i64 b.b)).run Tryz.prog w = .ok (decide (a.b = b.b)) w := by
      rw [run_equalIn_int w 9998 3 _ _ _ _ gg]
      simp [beq_dec]
    have p4 : ∀ c : CL, (part 3 #[.int .i64 c.kind, str c.name, str c.to_, .int .i64 c.a, .int .i64 c.b, str c.text] 4).run Tryz.prog w = .ok (.int .i64 c.b) w := fun c => by simp [part, str]
    have e5 : (Op.equalIn 9999 9 (str a.text) (str b.text)).run Tryz.prog w = .ok (decide (a.text = b.text)) w := by
      simp only [str]
      rw [run_equalIn_string w 9998 9 _ _ ky]
      simp [beq_dec]
    have p5 : ∀ c : CL, (part 9 #[.int .i64 c.kind, str c.name, str c.to_, .int .i64 c.a, .int .i64 c.b, str c.text] 5).run Tryz.prog w = .ok (str c.text) w := fun c => by simp [part, str]
    simp only [Op.eqFields, Sem.run_bind, p0, p1, p2, p3, p4, p5, e0, e1, e2, e3, e4, e5, Result.andThen_ok, ne_eq, Sem.run_ite, Sem.run_pure]
    obtain ⟨a0, a1, a2, a3, a4, a5⟩ := a
    obtain ⟨b0, b1, b2, b3, b4, b5⟩ := b
    by_cases h0 : a0 = b0
    · skip
      by_cases h1 : a1 = b1
      · skip
        by_cases h2 : a2 = b2
        · skip
          by_cases h3 : a3 = b3
          · skip
            by_cases h4 : a4 = b4
            · skip
              by_cases h5 : a5 = b5
              · skip
                simp [h0, h1, h2, h3, h4, h5]
              · simp [h0, h1, h2, h3, h4, h5]
            · simp [h0, h1, h2, h3, h4]
          · simp [h0, h1, h2, h3]
        · simp [h0, h1, h2]
      · simp [h0, h1]
    · simp [h0]
  simp only [execOp, hx, hy, Sem.run_bind, run_eqGuard_agg w .neq 51 x y _ _ Tryz.eqGuardType51, Result.andThen_ok, run_neq_struct, he, Sem.run_pure]
theorem underA : Tryz.prog.underlying 45 = some (.struct (Tryz.prog.fieldsOf 45)) := by kernel_rfl
theorem PO.neqA {n : Nat} {e : Env} {d : Option Tmp} {ty : TypeId} {pos : String} {aft : Array Edge} {gd : Option (Nat × Bool)} {x y : Operand} {u : TypeId} (a b : AN) (hx : rd n e x = .agg #[.int .i64 a.code, .int .i64 a.n, str a.text]) (hy : rd n e y = .agg #[.int .i64 b.code, .int .i64 b.n, str b.text]) : PO Tryz.prog n e ⟨d, .binOp .neq 45 x y u, ty, pos, aft, gd⟩ (.bool (!decide (a = b))) := fun w => by
  have he : (Op.equalIn 10000 45 (.agg #[.int .i64 a.code, .int .i64 a.n, str a.text]) (.agg #[.int .i64 b.code, .int .i64 b.n, str b.text])).run Tryz.prog w = .ok (decide (a = b)) w := by
    rw [run_equalIn_struct w 9999 45 _ _ underA Tryz.stoodInHeld45]
    rw [show (Tryz.prog.fieldsOf 45).toList = [⟨ "Code", 3, 0, false, "", "", 0⟩, ⟨ "N", 3, 1, false, "", "", 8⟩, ⟨ "Text", 9, 2, false, "", "", 16⟩] by kernel_rfl]
    have e0 : (Op.equalIn 9999 3 (.int .i64 a.code) (.int .i64 b.code)).run Tryz.prog w = .ok (decide (a.code = b.code)) w := by
      rw [run_equalIn_int w 9998 3 _ _ _ _ gg]
      simp [beq_dec]
    have p0 : ∀ c : AN, (part 3 #[.int .i64 c.code, .int .i64 c.n, str c.text] 0).run Tryz.prog w = .ok (.int .i64 c.code) w := fun c => by simp [part, str]
    have e1 : (Op.equalIn 9999 3 (.int .i64 a.n) (.int .i64 b.n)).run Tryz.prog w = .ok (decide (a.n = b.n)) w := by
      rw [run_equalIn_int w 9998 3 _ _ _ _ gg]
      simp [beq_dec]
    have p1 : ∀ c : AN, (part 3 #[.int .i64 c.code, .int .i64 c.n, str c.text] 1).run Tryz.prog w = .ok (.int .i64 c.n) w := fun c => by simp [part, str]
    have e2 : (Op.equalIn 9999 9 (str a.text) (str b.text)).run Tryz.prog w = .ok (decide (a.text = b.text)) w := by
      simp only [str]
      rw [run_equalIn_string w 9998 9 _ _ ky]
      simp [beq_dec]
    have p2 : ∀ c : AN, (part 9 #[.int .i64 c.code, .int .i64 c.n, str c.text] 2).run Tryz.prog w = .ok (str c.text) w := fun c => by simp [part, str]
    simp only [Op.eqFields, Sem.run_bind, p0, p1, p2, e0, e1, e2, Result.andThen_ok, ne_eq, Sem.run_ite, Sem.run_pure]
    obtain ⟨a0, a1, a2⟩ := a
    obtain ⟨b0, b1, b2⟩ := b
    by_cases h0 : a0 = b0
    · skip
      by_cases h1 : a1 = b1
      · skip
        by_cases h2 : a2 = b2
        · skip
          simp [h0, h1, h2]
        · simp [h0, h1, h2]
      · simp [h0, h1]
    · simp [h0]
  simp only [execOp, hx, hy, Sem.run_bind, run_eqGuard_agg w .neq 45 x y _ _ Tryz.eqGuardType45, Result.andThen_ok, run_neq_struct, he, Sem.run_pure]
attribute [local irreducible] JL JC JQ JO LO PO JA JX Ct

theorem C_sameCalls (a b : Option Addr) (c c' : Nat) (s t : List CL) (hn : s.length ≤ 9223372036854775807) :
    Ct Tryz.prog 42 [.slice a s.length c, .slice b t.length c'] [] (fun w => Sees w (.slice a s.length c) 6 s.length (s.flatMap encK) ∧ Sees w (.slice b t.length c') 6 t.length (t.flatMap encK)) (fun r A' => r = .bool (decide (s = t)) ∧ A' = []) := by
  refine Ct.intro Tryz.func42 rfl Tryz.ntmps42 (lb rfl) fun w0 hpre => ?_
  have hs_a : Sees w0 _ _ _ _ := hpre.1
  have hs_b : Sees w0 _ _ _ _ := hpre.2
  refine jC <| jE <| jA (jG (v := .bool false) rfl) <| jD <| jB <| jC <| jC <| jE <| jA (jF (v := .slice a s.length c) rfl) <| jA (jp gD rfl) ?_
  refine jA (jF (v := .slice b t.length c') rfl) <| jA (jp gD rfl) <| jA (kN rfl rfl) <| jD <| jB ?_
  by_cases h_1 : ((s.length : Nat) : Int) = ((t.length : Nat) : Int)
  · have hlen := h_1
    refine jP (cB (cN (dT h_1))) <| jU <| jB <| jC <| jC <| jE <| jA (jG (v := iv 0) rfl) <| jD <| jB <| jg ?_
    refine kC (fun k_ e_ L_ => ∃ j : Nat, (j ≤ s.length) ∧ (s.take j = t.take j) ∧ (s.length = t.length) ∧ e_ 0 = .slice a s.length c ∧ e_ 1 = .slice b t.length c' ∧ e_ 5 = nv j ∧ L_ = [] ∧ k_ = s.length - j) _ ⟨0, by omega, rfl, by omega, rfl, rfl, rfl, rfl, rfl⟩ ?_
    rintro _ e_2 _ ⟨j, hj, hE, hln, he_3, he_4, he_5, rfl, rfl⟩
    refine jC <| jC <| jE <| jA (jF (v := nv j) he_5) <| jA (jF (v := .slice a s.length c) he_3) <| jA (jp gD rfl) <| jA (jo rfl rfl) <| jD <| jB ?_
    by_cases h_6 : ((j : Nat) : Int) < ((s.length : Nat) : Int)
    · have hlt : j < s.length := by omega
      refine jO (cB (dT h_6)) <| jU <| jB <| jC <| jg <| jC <| jr [] 8 mixed (by simp) <| jI 0 rfl (jF (v := .slice a s.length c) he_3) <| jI 1 rfl (jF (v := nv j) he_5) ?_
      obtain ⟨hr_7, hr_7b, -⟩ := sees_some hs_a (by omega)
      refine jI 2 rfl (jl (i := j) gD ko hr_7 hr_7b rfl rfl (by omega)) <| jh 3 rfl (kS (vs := [iv ((s.getD j k0).kind), str ((s.getD j k0).name), str ((s.getD j k0).to_), iv ((s.getD j k0).a), iv ((s.getD j k0).b), str ((s.getD j k0).text)]) hs_a nM rfl ku ko (flat_take encK_len k0 s j (by omega)) rfl (by decide)) <| jI 4 rfl (jF (v := .slice b t.length c') he_4) <| jI 5 rfl (jF (v := nv j) he_5) ?_
      obtain ⟨hr_8, hr_8b, -⟩ := sees_some hs_b (by omega)
      refine jI 6 rfl (jl (i := j) gD ko hr_8 hr_8b rfl rfl (by omega)) <| jh 7 rfl (kS (vs := [iv ((t.getD j k0).kind), str ((t.getD j k0).name), str ((t.getD j k0).to_), iv ((t.getD j k0).a), iv ((t.getD j k0).b), str ((t.getD j k0).text)]) hs_b nM rfl ku ko (flat_take encK_len k0 t j (by omega)) rfl (by decide)) <| jI 8 rfl (PO.neqK (s.getD j k0) (t.getD j k0) rfl rfl) <| kI (by kernel_rfl) <| jB ?_
      by_cases h_9 : s.getD j k0 = t.getD j k0
      · have heq := h_9
        refine jP (cB (cN (dT h_9))) <| jU <| jk <| jB <| jE <| jA (jF (v := nv j) he_5) <| jA (ji (c := ((j + 1 : Nat) : Int)) rfl rfl (wr (by omega))) <| jA (jG (v := iv ((j + 1 : Nat) : Int)) rfl) <| jD ?_
        refine ju (s.length - (j + 1)) (by omega) ⟨j + 1, by omega, take_succ_eq k0 hE hlt hln heq, hln, he_3, he_4, rfl, rfl, rfl⟩
      have hne := h_9
      refine jO (cB (cN (dF h_9))) <| jC <| jE <| jA (jG (v := .bool false) rfl) <| jD <| jB <| jL <| jq <| jW <| jW ?_
      refine jq <| jW <| jR (.inl rfl) rfl (jN (v := .bool false) rfl) (List.nil_sublist _) ?_
      refine ⟨?_, rfl⟩
      rw [dF (fun h => hne (by rw [h]))]
    refine jP (cB (dF h_6)) <| jz <| jj <| jj <| kA <| jB <| jC <| jE <| jA (jG (v := .bool true) rfl) <| jD ?_
    refine jB <| jL <| jR (.inl rfl) rfl (jN (v := .bool true) rfl) (List.nil_sublist _) ?_
    refine ⟨?_, rfl⟩
    rw [dT (take_all_eq hE (by omega) (by omega))]
  have hlen := h_1
  refine jO (cB (cN (dF h_1))) <| jC <| jE <| jA (jG (v := .bool false) rfl) <| jD <| jB <| jL <| jW <| jR (.inl rfl) rfl (jN (v := .bool false) rfl) (List.nil_sublist _) ?_
  refine ⟨?_, rfl⟩
  rw [dF (fun h => by rw [h] at hlen; omega)]

theorem C_sameCallList (a b : Option Addr) (c c' : Nat) (s t : List CL) (hn : s.length ≤ 9223372036854775807) :
    Ct Tryz.prog 16 [.slice a s.length c, .slice b t.length c'] [] (fun w => Sees w (.slice a s.length c) 6 s.length (s.flatMap encK) ∧ Sees w (.slice b t.length c') 6 t.length (t.flatMap encK)) (fun r A' => r = .bool (decide (s = t)) ∧ A' = []) := by
  refine Ct.intro Tryz.func16 rfl Tryz.ntmps16 (lb rfl) fun w0 hpre => ?_
  have hs_a : Sees w0 _ _ _ _ := hpre.1
  have hs_b : Sees w0 _ _ _ _ := hpre.2
  refine jC <| jE <| jA (jG (v := .bool false) rfl) <| jD <| jB <| jC <| jC <| jE <| jA (jF (v := .slice a s.length c) rfl) <| jA (jp gD rfl) ?_
  refine jA (jF (v := .slice b t.length c') rfl) <| jA (jp gD rfl) <| jA (kN rfl rfl) <| jD <| jB ?_
  by_cases h_1 : ((s.length : Nat) : Int) = ((t.length : Nat) : Int)
  · have hlen := h_1
    refine jP (cB (cN (dT h_1))) <| jU <| jB <| jC <| jC <| jE <| jA (jG (v := iv 0) rfl) <| jD <| jB <| jg ?_
    refine kC (fun k_ e_ L_ => ∃ j : Nat, (j ≤ s.length) ∧ (s.take j = t.take j) ∧ (s.length = t.length) ∧ e_ 0 = .slice a s.length c ∧ e_ 1 = .slice b t.length c' ∧ e_ 5 = nv j ∧ L_ = [] ∧ k_ = s.length - j) _ ⟨0, by omega, rfl, by omega, rfl, rfl, rfl, rfl, rfl⟩ ?_
    rintro _ e_2 _ ⟨j, hj, hE, hln, he_3, he_4, he_5, rfl, rfl⟩
    refine jC <| jC <| jE <| jA (jF (v := nv j) he_5) <| jA (jF (v := .slice a s.length c) he_3) <| jA (jp gD rfl) <| jA (jo rfl rfl) <| jD <| jB ?_
    by_cases h_6 : ((j : Nat) : Int) < ((s.length : Nat) : Int)
    · have hlt : j < s.length := by omega
      refine jO (cB (dT h_6)) <| jU <| jB <| jC <| jg <| jC <| jr [] 8 mixed (by simp) <| jI 0 rfl (jF (v := .slice a s.length c) he_3) <| jI 1 rfl (jF (v := nv j) he_5) ?_
      obtain ⟨hr_7, hr_7b, -⟩ := sees_some hs_a (by omega)
      refine jI 2 rfl (jl (i := j) gD ko hr_7 hr_7b rfl rfl (by omega)) <| jh 3 rfl (kS (vs := [iv ((s.getD j k0).kind), str ((s.getD j k0).name), str ((s.getD j k0).to_), iv ((s.getD j k0).a), iv ((s.getD j k0).b), str ((s.getD j k0).text)]) hs_a nM rfl ku ko (flat_take encK_len k0 s j (by omega)) rfl (by decide)) <| jI 4 rfl (jF (v := .slice b t.length c') he_4) <| jI 5 rfl (jF (v := nv j) he_5) ?_
      obtain ⟨hr_8, hr_8b, -⟩ := sees_some hs_b (by omega)
      refine jI 6 rfl (jl (i := j) gD ko hr_8 hr_8b rfl rfl (by omega)) <| jh 7 rfl (kS (vs := [iv ((t.getD j k0).kind), str ((t.getD j k0).name), str ((t.getD j k0).to_), iv ((t.getD j k0).a), iv ((t.getD j k0).b), str ((t.getD j k0).text)]) hs_b nM rfl ku ko (flat_take encK_len k0 t j (by omega)) rfl (by decide)) <| jI 8 rfl (PO.neqK (s.getD j k0) (t.getD j k0) rfl rfl) <| kI (by kernel_rfl) <| jB ?_
      by_cases h_9 : s.getD j k0 = t.getD j k0
      · have heq := h_9
        refine jP (cB (cN (dT h_9))) <| jU <| jk <| jB <| jE <| jA (jF (v := nv j) he_5) <| jA (ji (c := ((j + 1 : Nat) : Int)) rfl rfl (wr (by omega))) <| jA (jG (v := iv ((j + 1 : Nat) : Int)) rfl) <| jD ?_
        refine ju (s.length - (j + 1)) (by omega) ⟨j + 1, by omega, take_succ_eq k0 hE hlt hln heq, hln, he_3, he_4, rfl, rfl, rfl⟩
      have hne := h_9
      refine jO (cB (cN (dF h_9))) <| jC <| jE <| jA (jG (v := .bool false) rfl) <| jD <| jB <| jL <| jq <| jW <| jW ?_
      refine jq <| jW <| jR (.inl rfl) rfl (jN (v := .bool false) rfl) (List.nil_sublist _) ?_
      refine ⟨?_, rfl⟩
      rw [dF (fun h => hne (by rw [h]))]
    refine jP (cB (dF h_6)) <| jz <| jj <| jj <| kA <| jB <| jC <| jE <| jA (jG (v := .bool true) rfl) <| jD ?_
    refine jB <| jL <| jR (.inl rfl) rfl (jN (v := .bool true) rfl) (List.nil_sublist _) ?_
    refine ⟨?_, rfl⟩
    rw [dT (take_all_eq hE (by omega) (by omega))]
  have hlen := h_1
  refine jO (cB (cN (dF h_1))) <| jC <| jE <| jA (jG (v := .bool false) rfl) <| jD <| jB <| jL <| jW <| jR (.inl rfl) rfl (jN (v := .bool false) rfl) (List.nil_sublist _) ?_
  refine ⟨?_, rfl⟩
  rw [dF (fun h => by rw [h] at hlen; omega)]

theorem C_sameAnswers (a b : Option Addr) (c c' : Nat) (s t : List AN) (hn : s.length ≤ 9223372036854775807) :
    Ct Tryz.prog 43 [.slice a s.length c, .slice b t.length c'] [] (fun w => Sees w (.slice a s.length c) 3 s.length (s.flatMap encA) ∧ Sees w (.slice b t.length c') 3 t.length (t.flatMap encA)) (fun r A' => r = .bool (decide (s = t)) ∧ A' = []) := by
  refine Ct.intro Tryz.func43 rfl Tryz.ntmps43 (lb rfl) fun w0 hpre => ?_
  have hs_a : Sees w0 _ _ _ _ := hpre.1
  have hs_b : Sees w0 _ _ _ _ := hpre.2
  refine jC <| jE <| jA (jG (v := .bool false) rfl) <| jD <| jB <| jC <| jC <| jE <| jA (jF (v := .slice a s.length c) rfl) <| jA (jp gN rfl) ?_
  refine jA (jF (v := .slice b t.length c') rfl) <| jA (jp gN rfl) <| jA (kN rfl rfl) <| jD <| jB ?_
  by_cases h_1 : ((s.length : Nat) : Int) = ((t.length : Nat) : Int)
  · have hlen := h_1
    refine jP (cB (cN (dT h_1))) <| jU <| jB <| jC <| jC <| jE <| jA (jG (v := iv 0) rfl) <| jD <| jB <| jg ?_
    refine kC (fun k_ e_ L_ => ∃ j : Nat, (j ≤ s.length) ∧ (s.take j = t.take j) ∧ (s.length = t.length) ∧ e_ 0 = .slice a s.length c ∧ e_ 1 = .slice b t.length c' ∧ e_ 5 = nv j ∧ L_ = [] ∧ k_ = s.length - j) _ ⟨0, by omega, rfl, by omega, rfl, rfl, rfl, rfl, rfl⟩ ?_
    rintro _ e_2 _ ⟨j, hj, hE, hln, he_3, he_4, he_5, rfl, rfl⟩
    refine jC <| jC <| jE <| jA (jF (v := nv j) he_5) <| jA (jF (v := .slice a s.length c) he_3) <| jA (jp gN rfl) <| jA (jo rfl rfl) <| jD <| jB ?_
    by_cases h_6 : ((j : Nat) : Int) < ((s.length : Nat) : Int)
    · have hlt : j < s.length := by omega
      refine jO (cB (dT h_6)) <| jU <| jB <| jC <| jg <| jC <| jr [] 8 mixed (by simp) <| jI 0 rfl (jF (v := .slice a s.length c) he_3) <| jI 1 rfl (jF (v := nv j) he_5) ?_
      obtain ⟨hr_7, hr_7b, -⟩ := sees_some hs_a (by omega)
      refine jI 2 rfl (jl (i := j) gN kr hr_7 hr_7b rfl rfl (by omega)) <| jh 3 rfl (kS (vs := [iv ((s.getD j a0_).code), iv ((s.getD j a0_).n), str ((s.getD j a0_).text)]) hs_a nM rfl gA kr (flat_take encA_len a0_ s j (by omega)) rfl (by decide)) <| jI 4 rfl (jF (v := .slice b t.length c') he_4) <| jI 5 rfl (jF (v := nv j) he_5) ?_
      obtain ⟨hr_8, hr_8b, -⟩ := sees_some hs_b (by omega)
      refine jI 6 rfl (jl (i := j) gN kr hr_8 hr_8b rfl rfl (by omega)) <| jh 7 rfl (kS (vs := [iv ((t.getD j a0_).code), iv ((t.getD j a0_).n), str ((t.getD j a0_).text)]) hs_b nM rfl gA kr (flat_take encA_len a0_ t j (by omega)) rfl (by decide)) <| jI 8 rfl (PO.neqA (s.getD j a0_) (t.getD j a0_) rfl rfl) <| kI (by kernel_rfl) <| jB ?_
      by_cases h_9 : s.getD j a0_ = t.getD j a0_
      · have heq := h_9
        refine jP (cB (cN (dT h_9))) <| jU <| jk <| jB <| jE <| jA (jF (v := nv j) he_5) <| jA (ji (c := ((j + 1 : Nat) : Int)) rfl rfl (wr (by omega))) <| jA (jG (v := iv ((j + 1 : Nat) : Int)) rfl) <| jD ?_
        refine ju (s.length - (j + 1)) (by omega) ⟨j + 1, by omega, take_succ_eq a0_ hE hlt hln heq, hln, he_3, he_4, rfl, rfl, rfl⟩
      have hne := h_9
      refine jO (cB (cN (dF h_9))) <| jC <| jE <| jA (jG (v := .bool false) rfl) <| jD <| jB <| jL <| jq <| jW <| jW ?_
      refine jq <| jW <| jR (.inl rfl) rfl (jN (v := .bool false) rfl) (List.nil_sublist _) ?_
      refine ⟨?_, rfl⟩
      rw [dF (fun h => hne (by rw [h]))]
    refine jP (cB (dF h_6)) <| jz <| jj <| jj <| kA <| jB <| jC <| jE <| jA (jG (v := .bool true) rfl) <| jD ?_
    refine jB <| jL <| jR (.inl rfl) rfl (jN (v := .bool true) rfl) (List.nil_sublist _) ?_
    refine ⟨?_, rfl⟩
    rw [dT (take_all_eq hE (by omega) (by omega))]
  have hlen := h_1
  refine jO (cB (cN (dF h_1))) <| jC <| jE <| jA (jG (v := .bool false) rfl) <| jD <| jB <| jL <| jW <| jR (.inl rfl) rfl (jN (v := .bool false) rfl) (List.nil_sublist _) ?_
  refine ⟨?_, rfl⟩
  rw [dF (fun h => by rw [h] at hlen; omega)]

set_option maxRecDepth 4000 in
set_option maxHeartbeats 1000000 in
theorem Y_sameTx (p q : TX) (hl : p.t.lim 1000000000) :
    Ct Tryz.prog 12 [.agg #[.int .i64 p.t.id, .int .i64 p.t.age, .int .i64 p.t.proc, .int .i64 p.t.began, .slice p.x.a0 p.t.calls.length p.x.c0, .slice p.x.a1 p.t.ans.length p.x.c1, .slice p.x.a2 p.t.rd.length p.x.c2, .slice p.x.a3 p.t.wr.length p.x.c3, .slice p.x.a4 p.t.marks.length p.x.c4, .int .i64 p.t.state], .agg #[.int .i64 q.t.id, .int .i64 q.t.age, .int .i64 q.t.proc, .int .i64 q.t.began, .slice q.x.a0 q.t.calls.length q.x.c0, .slice q.x.a1 q.t.ans.length q.x.c1, .slice q.x.a2 q.t.rd.length q.x.c2, .slice q.x.a3 q.t.wr.length q.x.c3, .slice q.x.a4 q.t.marks.length q.x.c4, .int .i64 q.t.state]] [] (fun w => SeesA w (rdsX p) ∧ SeesA w (rdsX q)) (fun v A' => v = .bool (decide (p.t = q.t)) ∧ A' = []) := by
  refine Ct.intro Tryz.func12 rfl Tryz.ntmps12 (lb rfl) fun w0 hpre => ?_
  obtain ⟨hs_1, hs_2, hs_3, hs_4, hs_5⟩ := seesX hpre.1
  obtain ⟨hs_6, hs_7, hs_8, hs_9, hs_10⟩ := seesX hpre.2
  obtain ⟨hl0_, hl1_, hl2_, hl3_, hl4_⟩ := id hl
  refine jC <| jE ?_
  refine jH rfl (jy (cs := (xc p)) rfl rfl) ?_
  rintro _ _ ⟨b_11, rfl, rfl⟩
  refine jH rfl (jy (cs := (xc q)) rfl rfl) ?_
  rintro _ _ ⟨b_12, rfl, rfl⟩
  refine jA (jG (v := .bool false) rfl) <| jD <| jB <| jC <| jE <| jA (jJ fo31_0 rfl) <| jK (jV 1 (v := iv p.t.id) rfl rfl kp rfl) <| jA (jJ fo31_0 rfl) <| jK (jV 0 (v := iv q.t.id) rfl rfl kp rfl) <| jA (jw rfl rfl) ?_
  refine jA (jF (v := .bool (decide (p.t.id = q.t.id))) rfl) ?_
  by_cases h_13 : p.t.id = q.t.id
  · refine jZ rfl rfl rfl (cB (dT h_13)) (ja (jf (jJ fo31_1 rfl))) ?_
    rintro _ _ ⟨rfl, rfl⟩
    refine jZ rfl rfl rfl (cB (dT h_13)) (ja (jV 1 (v := iv p.t.age) rfl rfl kp rfl)) ?_
    rintro _ _ ⟨rfl, rfl⟩
    refine jZ rfl rfl rfl (cB (dT h_13)) (ja (jf (jJ fo31_1 rfl))) ?_
    rintro _ _ ⟨rfl, rfl⟩
    refine jZ rfl rfl rfl (cB (dT h_13)) (ja (jV 0 (v := iv q.t.age) rfl rfl kp rfl)) ?_
    rintro _ _ ⟨rfl, rfl⟩
    refine jZ rfl rfl rfl (cB (dT h_13)) (ja (jf (jw rfl rfl))) ?_
    rintro _ _ ⟨rfl, rfl⟩
    refine jA (kG (v := .bool (decide (p.t.age = q.t.age))) (cB (dT h_13)) rfl) <| jA (jF (v := .bool (decide (p.t.age = q.t.age))) rfl) ?_
    by_cases h_14 : p.t.age = q.t.age
    · refine jZ rfl rfl rfl (cB (dT h_14)) (ja (jf (jJ fo31_2 rfl))) ?_
      rintro _ _ ⟨rfl, rfl⟩
      refine jZ rfl rfl rfl (cB (dT h_14)) (ja (jV 1 (v := iv p.t.proc) rfl rfl kp rfl)) ?_
      rintro _ _ ⟨rfl, rfl⟩
      refine jZ rfl rfl rfl (cB (dT h_14)) (ja (jf (jJ fo31_2 rfl))) ?_
      rintro _ _ ⟨rfl, rfl⟩
      refine jZ rfl rfl rfl (cB (dT h_14)) (ja (jV 0 (v := iv q.t.proc) rfl rfl kp rfl)) ?_
      rintro _ _ ⟨rfl, rfl⟩
      refine jZ rfl rfl rfl (cB (dT h_14)) (ja (jf (jw rfl rfl))) ?_
      rintro _ _ ⟨rfl, rfl⟩
      refine jA (kG (v := .bool (decide (p.t.proc = q.t.proc))) (cB (dT h_14)) rfl) <| jA (jF (v := .bool (decide (p.t.proc = q.t.proc))) rfl) ?_
      by_cases h_15 : p.t.proc = q.t.proc
      · refine jZ rfl rfl rfl (cB (dT h_15)) (ja (jf (jJ fo31_3 rfl))) ?_
        rintro _ _ ⟨rfl, rfl⟩
        refine jZ rfl rfl rfl (cB (dT h_15)) (ja (jV 1 (v := iv p.t.began) rfl rfl kp rfl)) ?_
        rintro _ _ ⟨rfl, rfl⟩
        refine jZ rfl rfl rfl (cB (dT h_15)) (ja (jf (jJ fo31_3 rfl))) ?_
        rintro _ _ ⟨rfl, rfl⟩
        refine jZ rfl rfl rfl (cB (dT h_15)) (ja (jV 0 (v := iv q.t.began) rfl rfl kp rfl)) ?_
        rintro _ _ ⟨rfl, rfl⟩
        refine jZ rfl rfl rfl (cB (dT h_15)) (ja (jf (jw rfl rfl))) ?_
        rintro _ _ ⟨rfl, rfl⟩
        refine jA (kG (v := .bool (decide (p.t.began = q.t.began))) (cB (dT h_15)) rfl) <| jA (jF (v := .bool (decide (p.t.began = q.t.began))) rfl) ?_
        by_cases h_16 : p.t.began = q.t.began
        · refine jZ rfl rfl rfl (cB (dT h_16)) (ja (jf (jJ fo31_4 rfl))) ?_
          rintro _ _ ⟨rfl, rfl⟩
          refine jZ rfl rfl rfl (cB (dT h_16)) (ja (jV 1 (v := .slice p.x.a0 p.t.calls.length p.x.c0) rfl rfl gb rfl)) ?_
          rintro _ _ ⟨rfl, rfl⟩
          refine jZ rfl rfl rfl (cB (dT h_16)) (ja (jf (jJ fo31_4 rfl))) ?_
          rintro _ _ ⟨rfl, rfl⟩
          refine jZ rfl rfl rfl (cB (dT h_16)) (ja (jV 0 (v := .slice q.x.a0 q.t.calls.length q.x.c0) rfl rfl gb rfl)) ?_
          rintro _ _ ⟨rfl, rfl⟩
          refine jZ rfl rfl rfl (cB (dT h_16)) (jM [] Tryz.call42 rfl (C_sameCalls p.x.a0 q.x.a0 p.x.c0 q.x.c0 p.t.calls q.t.calls (by omega)) rfl (fun w hw => ⟨hw.seeOut_ hs_1 nM, hw.seeOut_ hs_6 nM⟩)) ?_
          rintro _ _ ⟨_, ⟨rfl, rfl⟩, rfl⟩
          refine jA (kG (v := .bool (decide (p.t.calls = q.t.calls))) (cB (dT h_16)) rfl) <| jA (jF (v := .bool (decide (p.t.calls = q.t.calls))) rfl) ?_
          by_cases h_17 : p.t.calls = q.t.calls
          · refine jZ rfl rfl rfl (cB (dT h_17)) (ja (jf (jJ fo31_5 rfl))) ?_
            rintro _ _ ⟨rfl, rfl⟩
            refine jZ rfl rfl rfl (cB (dT h_17)) (ja (jV 1 (v := .slice p.x.a1 p.t.ans.length p.x.c1) rfl rfl gh rfl)) ?_
            rintro _ _ ⟨rfl, rfl⟩
            refine jZ rfl rfl rfl (cB (dT h_17)) (ja (jf (jJ fo31_5 rfl))) ?_
            rintro _ _ ⟨rfl, rfl⟩
            refine jZ rfl rfl rfl (cB (dT h_17)) (ja (jV 0 (v := .slice q.x.a1 q.t.ans.length q.x.c1) rfl rfl gh rfl)) ?_
            rintro _ _ ⟨rfl, rfl⟩
            refine jZ rfl rfl rfl (cB (dT h_17)) (jM [] Tryz.call43 rfl (C_sameAnswers p.x.a1 q.x.a1 p.x.c1 q.x.c1 p.t.ans q.t.ans (by omega)) rfl (fun w hw => ⟨hw.seeOut_ hs_2 nM, hw.seeOut_ hs_7 nM⟩)) ?_
            rintro _ _ ⟨_, ⟨rfl, rfl⟩, rfl⟩
            refine jA (kG (v := .bool (decide (p.t.ans = q.t.ans))) (cB (dT h_17)) rfl) <| jA (jF (v := .bool (decide (p.t.ans = q.t.ans))) rfl) ?_
            by_cases h_18 : p.t.ans = q.t.ans
            · refine jZ rfl rfl rfl (cB (dT h_18)) (ja (jf (jJ fo31_6 rfl))) ?_
              rintro _ _ ⟨rfl, rfl⟩
              refine jZ rfl rfl rfl (cB (dT h_18)) (ja (jX 1 (vs := [.slice p.x.a2 p.t.rd.length p.x.c2, .slice p.x.a3 p.t.wr.length p.x.c3]) rfl rfl gL kx rfl rfl)) ?_
              rintro _ _ ⟨rfl, rfl⟩
              refine jZ rfl rfl rfl (cB (dT h_18)) (ja (jf (jJ fo31_6 rfl))) ?_
              rintro _ _ ⟨rfl, rfl⟩
              refine jZ rfl rfl rfl (cB (dT h_18)) (ja (jX 0 (vs := [.slice q.x.a2 q.t.rd.length q.x.c2, .slice q.x.a3 q.t.wr.length q.x.c3]) rfl rfl gL kx rfl rfl)) ?_
              rintro _ _ ⟨rfl, rfl⟩
              refine jZ rfl rfl rfl (cB (dT h_18)) (jM [] Tryz.call44 rfl (C_sameTouch p.x.a2 p.x.a3 q.x.a2 q.x.a3 p.x.c2 p.x.c3 q.x.c2 q.x.c3 p.t.rd p.t.wr q.t.rd q.t.wr (by omega) (by omega)) rfl (fun w hw => ⟨hw.seeOut_ hs_3 nM, hw.seeOut_ hs_4 nM, hw.seeOut_ hs_8 nM, hw.seeOut_ hs_9 nM⟩)) ?_
              rintro _ _ ⟨_, ⟨rfl, rfl⟩, rfl⟩
              refine jA (kG (v := .bool (decide (p.t.rd = q.t.rd) && decide (p.t.wr = q.t.wr))) (cB (dT h_18)) rfl) <| jA (jF (v := .bool (decide (p.t.rd = q.t.rd) && decide (p.t.wr = q.t.wr))) rfl) ?_
              rcases Bool.eq_false_or_eq_true (decide (p.t.rd = q.t.rd) && decide (p.t.wr = q.t.wr)) with h_19 | h_19
              · have h_19d := h_19
                simp only [Bool.and_eq_true, Bool.and_eq_false_iff, decide_eq_true_eq, decide_eq_false_iff_not] at h_19d
                refine jZ rfl rfl rfl (cB h_19) (ja (jf (jJ fo31_7 rfl))) ?_
                rintro _ _ ⟨rfl, rfl⟩
                refine jZ rfl rfl rfl (cB h_19) (ja (jV 1 (v := .slice p.x.a4 p.t.marks.length p.x.c4) rfl rfl gS rfl)) ?_
                rintro _ _ ⟨rfl, rfl⟩
                refine jZ rfl rfl rfl (cB h_19) (ja (jf (jJ fo31_7 rfl))) ?_
                rintro _ _ ⟨rfl, rfl⟩
                refine jZ rfl rfl rfl (cB h_19) (ja (jV 0 (v := .slice q.x.a4 q.t.marks.length q.x.c4) rfl rfl gS rfl)) ?_
                rintro _ _ ⟨rfl, rfl⟩
                refine jZ rfl rfl rfl (cB h_19) (jM [] Tryz.call45 rfl (C_sameInts p.x.a4 q.x.a4 p.x.c4 q.x.c4 p.t.marks q.t.marks (by omega)) rfl (fun w hw => ⟨hw.seeOut_ hs_5 nM, hw.seeOut_ hs_10 nM⟩)) ?_
                rintro _ _ ⟨_, ⟨rfl, rfl⟩, rfl⟩
                refine jA (kG (v := .bool (decide (p.t.marks = q.t.marks))) (cB h_19) rfl) <| jA (jF (v := .bool (decide (p.t.marks = q.t.marks))) rfl) ?_
                by_cases h_20 : p.t.marks = q.t.marks
                · refine jZ rfl rfl rfl (cB (dT h_20)) (ja (jf (jJ fo31_8 rfl))) ?_
                  rintro _ _ ⟨rfl, rfl⟩
                  refine jZ rfl rfl rfl (cB (dT h_20)) (ja (jV 1 (v := iv p.t.state) rfl rfl kp rfl)) ?_
                  rintro _ _ ⟨rfl, rfl⟩
                  refine jZ rfl rfl rfl (cB (dT h_20)) (ja (jf (jJ fo31_8 rfl))) ?_
                  rintro _ _ ⟨rfl, rfl⟩
                  refine jZ rfl rfl rfl (cB (dT h_20)) (ja (jV 0 (v := iv q.t.state) rfl rfl kp rfl)) ?_
                  rintro _ _ ⟨rfl, rfl⟩
                  refine jZ rfl rfl rfl (cB (dT h_20)) (ja (jf (jw rfl rfl))) ?_
                  rintro _ _ ⟨rfl, rfl⟩
                  refine jA (kG (v := .bool (decide (p.t.state = q.t.state))) (cB (dT h_20)) rfl) <| jA (jG (v := .bool (decide (p.t.state = q.t.state))) rfl) <| jD <| jB <| jL <| jR (.inl rfl) rfl (jN (v := .bool (decide (p.t.state = q.t.state))) rfl) (List.nil_sublist _) ?_
                  refine ⟨cB (decide_eq_decide.2 ?_), rfl⟩
                  rw [sameTD]
                  simp_all
                refine jS (b := false) rfl rfl rfl (cB (dF h_20)) <| jS (b := false) rfl rfl rfl (cB (dF h_20)) <| jS (b := false) rfl rfl rfl (cB (dF h_20)) <| jS (b := false) rfl rfl rfl (cB (dF h_20)) <| jS (b := false) rfl rfl rfl (cB (dF h_20)) <| jA (jv (v := .bool false) (cB (dF h_20)) rfl) <| jA (jG (v := .bool false) rfl) <| jD <| jB <| jL ?_
                refine jR (.inl rfl) rfl (jN (v := .bool false) rfl) (List.nil_sublist _) ?_
                refine ⟨cB (dF (fun h_ => ?_)).symm, rfl⟩
                obtain ⟨g0_, g1_, g2_, g3_, g4_, g5_, g6_, g7_, g8_, g9_⟩ := sameTD.1 h_
                first | contradiction | simp_all
              have h_19d := h_19
              simp only [Bool.and_eq_true, Bool.and_eq_false_iff, decide_eq_true_eq, decide_eq_false_iff_not] at h_19d
              refine jS (b := false) rfl rfl rfl (cB h_19) <| jS (b := false) rfl rfl rfl (cB h_19) <| jS (b := false) rfl rfl rfl (cB h_19) <| jS (b := false) rfl rfl rfl (cB h_19) <| jS (b := false) rfl rfl rfl (cB h_19) <| jA (jv (v := .bool false) (cB h_19) rfl) <| jA (jF (v := .bool false) rfl) <| jS (b := false) rfl rfl rfl (cB rfl) <| jS (b := false) rfl rfl rfl (cB rfl) <| jS (b := false) rfl rfl rfl (cB rfl) ?_
              refine jS (b := false) rfl rfl rfl (cB rfl) <| jS (b := false) rfl rfl rfl (cB rfl) <| jA (jv (v := .bool false) (cB rfl) rfl) <| jA (jG (v := .bool false) rfl) <| jD <| jB <| jL <| jR (.inl rfl) rfl (jN (v := .bool false) rfl) (List.nil_sublist _) ?_
              refine ⟨cB (dF (fun h_ => ?_)).symm, rfl⟩
              obtain ⟨g0_, g1_, g2_, g3_, g4_, g5_, g6_, g7_, g8_, g9_⟩ := sameTD.1 h_
              first | contradiction | simp_all
            refine jS (b := false) rfl rfl rfl (cB (dF h_18)) <| jS (b := false) rfl rfl rfl (cB (dF h_18)) <| jS (b := false) rfl rfl rfl (cB (dF h_18)) <| jS (b := false) rfl rfl rfl (cB (dF h_18)) <| jS (b := false) rfl rfl rfl (cB (dF h_18)) <| jA (jv (v := .bool false) (cB (dF h_18)) rfl) <| jA (jF (v := .bool false) rfl) <| jS (b := false) rfl rfl rfl (cB rfl) <| jS (b := false) rfl rfl rfl (cB rfl) <| jS (b := false) rfl rfl rfl (cB rfl) ?_
            refine jS (b := false) rfl rfl rfl (cB rfl) <| jS (b := false) rfl rfl rfl (cB rfl) <| jA (jv (v := .bool false) (cB rfl) rfl) <| jA (jF (v := .bool false) rfl) <| jS (b := false) rfl rfl rfl (cB rfl) <| jS (b := false) rfl rfl rfl (cB rfl) <| jS (b := false) rfl rfl rfl (cB rfl) <| jS (b := false) rfl rfl rfl (cB rfl) <| jS (b := false) rfl rfl rfl (cB rfl) <| jA (jv (v := .bool false) (cB rfl) rfl) ?_
            refine jA (jG (v := .bool false) rfl) <| jD <| jB <| jL <| jR (.inl rfl) rfl (jN (v := .bool false) rfl) (List.nil_sublist _) ?_
            refine ⟨cB (dF (fun h_ => ?_)).symm, rfl⟩
            obtain ⟨g0_, g1_, g2_, g3_, g4_, g5_, g6_, g7_, g8_, g9_⟩ := sameTD.1 h_
            first | contradiction | simp_all
          refine jS (b := false) rfl rfl rfl (cB (dF h_17)) <| jS (b := false) rfl rfl rfl (cB (dF h_17)) <| jS (b := false) rfl rfl rfl (cB (dF h_17)) <| jS (b := false) rfl rfl rfl (cB (dF h_17)) <| jS (b := false) rfl rfl rfl (cB (dF h_17)) <| jA (jv (v := .bool false) (cB (dF h_17)) rfl) <| jA (jF (v := .bool false) rfl) <| jS (b := false) rfl rfl rfl (cB rfl) <| jS (b := false) rfl rfl rfl (cB rfl) <| jS (b := false) rfl rfl rfl (cB rfl) ?_
          refine jS (b := false) rfl rfl rfl (cB rfl) <| jS (b := false) rfl rfl rfl (cB rfl) <| jA (jv (v := .bool false) (cB rfl) rfl) <| jA (jF (v := .bool false) rfl) <| jS (b := false) rfl rfl rfl (cB rfl) <| jS (b := false) rfl rfl rfl (cB rfl) <| jS (b := false) rfl rfl rfl (cB rfl) <| jS (b := false) rfl rfl rfl (cB rfl) <| jS (b := false) rfl rfl rfl (cB rfl) <| jA (jv (v := .bool false) (cB rfl) rfl) ?_
          refine jA (jF (v := .bool false) rfl) <| jS (b := false) rfl rfl rfl (cB rfl) <| jS (b := false) rfl rfl rfl (cB rfl) <| jS (b := false) rfl rfl rfl (cB rfl) <| jS (b := false) rfl rfl rfl (cB rfl) <| jS (b := false) rfl rfl rfl (cB rfl) <| jA (jv (v := .bool false) (cB rfl) rfl) <| jA (jG (v := .bool false) rfl) <| jD <| jB ?_
          refine jL <| jR (.inl rfl) rfl (jN (v := .bool false) rfl) (List.nil_sublist _) ?_
          refine ⟨cB (dF (fun h_ => ?_)).symm, rfl⟩
          obtain ⟨g0_, g1_, g2_, g3_, g4_, g5_, g6_, g7_, g8_, g9_⟩ := sameTD.1 h_
          first | contradiction | simp_all
        refine jS (b := false) rfl rfl rfl (cB (dF h_16)) <| jS (b := false) rfl rfl rfl (cB (dF h_16)) <| jS (b := false) rfl rfl rfl (cB (dF h_16)) <| jS (b := false) rfl rfl rfl (cB (dF h_16)) <| jS (b := false) rfl rfl rfl (cB (dF h_16)) <| jA (jv (v := .bool false) (cB (dF h_16)) rfl) <| jA (jF (v := .bool false) rfl) <| jS (b := false) rfl rfl rfl (cB rfl) <| jS (b := false) rfl rfl rfl (cB rfl) <| jS (b := false) rfl rfl rfl (cB rfl) ?_
        refine jS (b := false) rfl rfl rfl (cB rfl) <| jS (b := false) rfl rfl rfl (cB rfl) <| jA (jv (v := .bool false) (cB rfl) rfl) <| jA (jF (v := .bool false) rfl) <| jS (b := false) rfl rfl rfl (cB rfl) <| jS (b := false) rfl rfl rfl (cB rfl) <| jS (b := false) rfl rfl rfl (cB rfl) <| jS (b := false) rfl rfl rfl (cB rfl) <| jS (b := false) rfl rfl rfl (cB rfl) <| jA (jv (v := .bool false) (cB rfl) rfl) ?_
        refine jA (jF (v := .bool false) rfl) <| jS (b := false) rfl rfl rfl (cB rfl) <| jS (b := false) rfl rfl rfl (cB rfl) <| jS (b := false) rfl rfl rfl (cB rfl) <| jS (b := false) rfl rfl rfl (cB rfl) <| jS (b := false) rfl rfl rfl (cB rfl) <| jA (jv (v := .bool false) (cB rfl) rfl) <| jA (jF (v := .bool false) rfl) <| jS (b := false) rfl rfl rfl (cB rfl) <| jS (b := false) rfl rfl rfl (cB rfl) ?_
        refine jS (b := false) rfl rfl rfl (cB rfl) <| jS (b := false) rfl rfl rfl (cB rfl) <| jS (b := false) rfl rfl rfl (cB rfl) <| jA (jv (v := .bool false) (cB rfl) rfl) <| jA (jG (v := .bool false) rfl) <| jD <| jB <| jL <| jR (.inl rfl) rfl (jN (v := .bool false) rfl) (List.nil_sublist _) ?_
        refine ⟨cB (dF (fun h_ => ?_)).symm, rfl⟩
        obtain ⟨g0_, g1_, g2_, g3_, g4_, g5_, g6_, g7_, g8_, g9_⟩ := sameTD.1 h_
        first | contradiction | simp_all
      refine jS (b := false) rfl rfl rfl (cB (dF h_15)) <| jS (b := false) rfl rfl rfl (cB (dF h_15)) <| jS (b := false) rfl rfl rfl (cB (dF h_15)) <| jS (b := false) rfl rfl rfl (cB (dF h_15)) <| jS (b := false) rfl rfl rfl (cB (dF h_15)) <| jA (jv (v := .bool false) (cB (dF h_15)) rfl) <| jA (jF (v := .bool false) rfl) <| jS (b := false) rfl rfl rfl (cB rfl) <| jS (b := false) rfl rfl rfl (cB rfl) <| jS (b := false) rfl rfl rfl (cB rfl) ?_
      refine jS (b := false) rfl rfl rfl (cB rfl) <| jS (b := false) rfl rfl rfl (cB rfl) <| jA (jv (v := .bool false) (cB rfl) rfl) <| jA (jF (v := .bool false) rfl) <| jS (b := false) rfl rfl rfl (cB rfl) <| jS (b := false) rfl rfl rfl (cB rfl) <| jS (b := false) rfl rfl rfl (cB rfl) <| jS (b := false) rfl rfl rfl (cB rfl) <| jS (b := false) rfl rfl rfl (cB rfl) <| jA (jv (v := .bool false) (cB rfl) rfl) ?_
      refine jA (jF (v := .bool false) rfl) <| jS (b := false) rfl rfl rfl (cB rfl) <| jS (b := false) rfl rfl rfl (cB rfl) <| jS (b := false) rfl rfl rfl (cB rfl) <| jS (b := false) rfl rfl rfl (cB rfl) <| jS (b := false) rfl rfl rfl (cB rfl) <| jA (jv (v := .bool false) (cB rfl) rfl) <| jA (jF (v := .bool false) rfl) <| jS (b := false) rfl rfl rfl (cB rfl) <| jS (b := false) rfl rfl rfl (cB rfl) ?_
      refine jS (b := false) rfl rfl rfl (cB rfl) <| jS (b := false) rfl rfl rfl (cB rfl) <| jS (b := false) rfl rfl rfl (cB rfl) <| jA (jv (v := .bool false) (cB rfl) rfl) <| jA (jF (v := .bool false) rfl) <| jS (b := false) rfl rfl rfl (cB rfl) <| jS (b := false) rfl rfl rfl (cB rfl) <| jS (b := false) rfl rfl rfl (cB rfl) <| jS (b := false) rfl rfl rfl (cB rfl) <| jS (b := false) rfl rfl rfl (cB rfl) ?_
      refine jA (jv (v := .bool false) (cB rfl) rfl) <| jA (jG (v := .bool false) rfl) <| jD <| jB <| jL <| jR (.inl rfl) rfl (jN (v := .bool false) rfl) (List.nil_sublist _) ?_
      refine ⟨cB (dF (fun h_ => ?_)).symm, rfl⟩
      obtain ⟨g0_, g1_, g2_, g3_, g4_, g5_, g6_, g7_, g8_, g9_⟩ := sameTD.1 h_
      first | contradiction | simp_all
    refine jS (b := false) rfl rfl rfl (cB (dF h_14)) <| jS (b := false) rfl rfl rfl (cB (dF h_14)) <| jS (b := false) rfl rfl rfl (cB (dF h_14)) <| jS (b := false) rfl rfl rfl (cB (dF h_14)) <| jS (b := false) rfl rfl rfl (cB (dF h_14)) <| jA (jv (v := .bool false) (cB (dF h_14)) rfl) <| jA (jF (v := .bool false) rfl) <| jS (b := false) rfl rfl rfl (cB rfl) <| jS (b := false) rfl rfl rfl (cB rfl) <| jS (b := false) rfl rfl rfl (cB rfl) ?_
    refine jS (b := false) rfl rfl rfl (cB rfl) <| jS (b := false) rfl rfl rfl (cB rfl) <| jA (jv (v := .bool false) (cB rfl) rfl) <| jA (jF (v := .bool false) rfl) <| jS (b := false) rfl rfl rfl (cB rfl) <| jS (b := false) rfl rfl rfl (cB rfl) <| jS (b := false) rfl rfl rfl (cB rfl) <| jS (b := false) rfl rfl rfl (cB rfl) <| jS (b := false) rfl rfl rfl (cB rfl) <| jA (jv (v := .bool false) (cB rfl) rfl) ?_
    refine jA (jF (v := .bool false) rfl) <| jS (b := false) rfl rfl rfl (cB rfl) <| jS (b := false) rfl rfl rfl (cB rfl) <| jS (b := false) rfl rfl rfl (cB rfl) <| jS (b := false) rfl rfl rfl (cB rfl) <| jS (b := false) rfl rfl rfl (cB rfl) <| jA (jv (v := .bool false) (cB rfl) rfl) <| jA (jF (v := .bool false) rfl) <| jS (b := false) rfl rfl rfl (cB rfl) <| jS (b := false) rfl rfl rfl (cB rfl) ?_
    refine jS (b := false) rfl rfl rfl (cB rfl) <| jS (b := false) rfl rfl rfl (cB rfl) <| jS (b := false) rfl rfl rfl (cB rfl) <| jA (jv (v := .bool false) (cB rfl) rfl) <| jA (jF (v := .bool false) rfl) <| jS (b := false) rfl rfl rfl (cB rfl) <| jS (b := false) rfl rfl rfl (cB rfl) <| jS (b := false) rfl rfl rfl (cB rfl) <| jS (b := false) rfl rfl rfl (cB rfl) <| jS (b := false) rfl rfl rfl (cB rfl) ?_
    refine jA (jv (v := .bool false) (cB rfl) rfl) <| jA (jF (v := .bool false) rfl) <| jS (b := false) rfl rfl rfl (cB rfl) <| jS (b := false) rfl rfl rfl (cB rfl) <| jS (b := false) rfl rfl rfl (cB rfl) <| jS (b := false) rfl rfl rfl (cB rfl) <| jS (b := false) rfl rfl rfl (cB rfl) <| jA (jv (v := .bool false) (cB rfl) rfl) <| jA (jG (v := .bool false) rfl) <| jD ?_
    refine jB <| jL <| jR (.inl rfl) rfl (jN (v := .bool false) rfl) (List.nil_sublist _) ?_
    refine ⟨cB (dF (fun h_ => ?_)).symm, rfl⟩
    obtain ⟨g0_, g1_, g2_, g3_, g4_, g5_, g6_, g7_, g8_, g9_⟩ := sameTD.1 h_
    first | contradiction | simp_all
  refine jS (b := false) rfl rfl rfl (cB (dF h_13)) <| jS (b := false) rfl rfl rfl (cB (dF h_13)) <| jS (b := false) rfl rfl rfl (cB (dF h_13)) <| jS (b := false) rfl rfl rfl (cB (dF h_13)) <| jS (b := false) rfl rfl rfl (cB (dF h_13)) <| jA (jv (v := .bool false) (cB (dF h_13)) rfl) <| jA (jF (v := .bool false) rfl) <| jS (b := false) rfl rfl rfl (cB rfl) <| jS (b := false) rfl rfl rfl (cB rfl) <| jS (b := false) rfl rfl rfl (cB rfl) ?_
  refine jS (b := false) rfl rfl rfl (cB rfl) <| jS (b := false) rfl rfl rfl (cB rfl) <| jA (jv (v := .bool false) (cB rfl) rfl) <| jA (jF (v := .bool false) rfl) <| jS (b := false) rfl rfl rfl (cB rfl) <| jS (b := false) rfl rfl rfl (cB rfl) <| jS (b := false) rfl rfl rfl (cB rfl) <| jS (b := false) rfl rfl rfl (cB rfl) <| jS (b := false) rfl rfl rfl (cB rfl) <| jA (jv (v := .bool false) (cB rfl) rfl) ?_
  refine jA (jF (v := .bool false) rfl) <| jS (b := false) rfl rfl rfl (cB rfl) <| jS (b := false) rfl rfl rfl (cB rfl) <| jS (b := false) rfl rfl rfl (cB rfl) <| jS (b := false) rfl rfl rfl (cB rfl) <| jS (b := false) rfl rfl rfl (cB rfl) <| jA (jv (v := .bool false) (cB rfl) rfl) <| jA (jF (v := .bool false) rfl) <| jS (b := false) rfl rfl rfl (cB rfl) <| jS (b := false) rfl rfl rfl (cB rfl) ?_
  refine jS (b := false) rfl rfl rfl (cB rfl) <| jS (b := false) rfl rfl rfl (cB rfl) <| jS (b := false) rfl rfl rfl (cB rfl) <| jA (jv (v := .bool false) (cB rfl) rfl) <| jA (jF (v := .bool false) rfl) <| jS (b := false) rfl rfl rfl (cB rfl) <| jS (b := false) rfl rfl rfl (cB rfl) <| jS (b := false) rfl rfl rfl (cB rfl) <| jS (b := false) rfl rfl rfl (cB rfl) <| jS (b := false) rfl rfl rfl (cB rfl) ?_
  refine jA (jv (v := .bool false) (cB rfl) rfl) <| jA (jF (v := .bool false) rfl) <| jS (b := false) rfl rfl rfl (cB rfl) <| jS (b := false) rfl rfl rfl (cB rfl) <| jS (b := false) rfl rfl rfl (cB rfl) <| jS (b := false) rfl rfl rfl (cB rfl) <| jS (b := false) rfl rfl rfl (cB rfl) <| jA (jv (v := .bool false) (cB rfl) rfl) <| jA (jF (v := .bool false) rfl) <| jS (b := false) rfl rfl rfl (cB rfl) ?_
  refine jS (b := false) rfl rfl rfl (cB rfl) <| jS (b := false) rfl rfl rfl (cB rfl) <| jS (b := false) rfl rfl rfl (cB rfl) <| jS (b := false) rfl rfl rfl (cB rfl) <| jA (jv (v := .bool false) (cB rfl) rfl) <| jA (jG (v := .bool false) rfl) <| jD <| jB <| jL <| jR (.inl rfl) rfl (jN (v := .bool false) rfl) (List.nil_sublist _) ?_
  refine ⟨cB (dF (fun h_ => ?_)).symm, rfl⟩
  obtain ⟨g0_, g1_, g2_, g3_, g4_, g5_, g6_, g7_, g8_, g9_⟩ := sameTD.1 h_
  first | contradiction | simp_all

theorem Y_named (k : Int) (n : Str) :
    Ct Tryz.prog 22 [.int .i64 k, str n] [] (fun _ => True) (fun v A' => v = .agg #[.int .i64 k, str n, str [], .int .i64 0, .int .i64 0, str []] ∧ A' = []) := by
  refine Ct.intro Tryz.func22 rfl Tryz.ntmps22 (lb rfl) fun w0 hpre => ?_
  refine jC <| jE ?_
  refine jH rfl (jn (z := .agg #[iv 0, str [], str [], iv 0, iv 0, str []]) (cs := [iv 0, str [], str [], iv 0, iv 0, str []]) gr rfl) ?_
  rintro _ _ ⟨b_1, rfl, rfl⟩
  refine jD <| jB <| jC <| jE <| jA (jF (v := iv k) rfl) <| jA (jF (v := str n) rfl) <| jA (kY (ps := [(0, iv k), (1, str n)]) (cs := [iv k, str n, str [], iv 0, iv 0, str []]) rfl (by kernel_rfl)) ?_
  refine jH rfl (jT 0 (vs := [iv k, str n, str [], iv 0, iv 0, str []]) (cs' := [iv k, str n, str [], iv 0, iv 0, str []]) rfl rfl rfl rfl ko rfl rfl (lb rfl) rfl) ?_
  rintro _ _ rfl
  refine jD <| jB <| jL <| jR (.inl rfl) rfl (je (jX 0 (vs := [iv k, str n, str [], iv 0, iv 0, str []]) rfl rfl ku ko rfl rfl) ⟨_, rfl⟩) (List.nil_sublist _) ?_
  exact ⟨rfl, rfl⟩

theorem Y_marked (p : TX) (hm : p.t.marks.length ≤ 1000000000) :
    Ct Tryz.prog 15 [.agg #[.int .i64 p.t.id, .int .i64 p.t.age, .int .i64 p.t.proc, .int .i64 p.t.began, .slice p.x.a0 p.t.calls.length p.x.c0, .slice p.x.a1 p.t.ans.length p.x.c1, .slice p.x.a2 p.t.rd.length p.x.c2, .slice p.x.a3 p.t.wr.length p.x.c3, .slice p.x.a4 p.t.marks.length p.x.c4, .int .i64 p.t.state]] [] (fun _ => True) (fun v A' => v = .int .i64 ((p.t.marks.length : Nat) : Int) ∧ A' = []) := by
  refine Ct.intro Tryz.func15 rfl Tryz.ntmps15 (lb rfl) fun w0 hpre => ?_
  refine jC <| jE ?_
  refine jH rfl (jy (cs := (xc p)) rfl rfl) ?_
  rintro _ _ ⟨b_1, rfl, rfl⟩
  refine jA (jG (v := iv 0) rfl) <| jD <| jB <| jC <| jE <| jA (jJ fo31_7 rfl) <| jK (jV 0 (v := .slice p.x.a4 p.t.marks.length p.x.c4) rfl rfl gS rfl) <| jA (jp gB rfl) <| jA (jG (v := nv p.t.marks.length) rfl) <| jD ?_
  refine jB <| jL <| jR (.inl rfl) rfl (jN (v := nv p.t.marks.length) rfl) (List.nil_sublist _) ?_
  exact ⟨rfl, rfl⟩

set_option maxRecDepth 4000 in
set_option maxHeartbeats 1000000 in
theorem Y_iSince (p : TX) (hl : p.t.lim 1000000000) (q : Int) (h_q : -9223372036854775808 ≤ q ∧ q ≤ 9223372036854775807) :
    Ct Tryz.prog 17 [.agg #[.int .i64 p.t.id, .int .i64 p.t.age, .int .i64 p.t.proc, .int .i64 p.t.began, .slice p.x.a0 p.t.calls.length p.x.c0, .slice p.x.a1 p.t.ans.length p.x.c1, .slice p.x.a2 p.t.rd.length p.x.c2, .slice p.x.a3 p.t.wr.length p.x.c3, .slice p.x.a4 p.t.marks.length p.x.c4, .int .i64 p.t.state], .int .i64 q] [] (fun w => SeesA w (rdsX p)) (fun v A' => ∃ a c, v = .slice a (p.t.since q).length c ∧ A' = [Res.row (.slice a ((p.t.since q).length) c) 51 6 ((p.t.since q).length) ((p.t.since q).flatMap encK)]) := by
  refine Ct.intro Tryz.func17 rfl Tryz.ntmps17 (lb rfl) fun w0 hpre => ?_
  obtain ⟨hs_1, hs_2, hs_3, hs_4, hs_5⟩ := seesX hpre
  obtain ⟨hl0_, hl1_, hl2_, hl3_, hl4_⟩ := id hl
  refine jC <| jE ?_
  refine jH rfl (jy (cs := (xc p)) rfl rfl) ?_
  rintro _ _ ⟨b_6, rfl, rfl⟩
  refine jA (jG (v := .slice none 0 0) rfl) <| jD <| jB <| jC <| jC <| jE <| jA (jF (v := iv q) rfl) <| jA (jJ fo31_7 rfl) <| jK (jV 0 (v := .slice p.x.a4 p.t.marks.length p.x.c4) rfl rfl gS rfl) <| jA (jp gB rfl) ?_
  refine jH rfl (jM [] Tryz.call35 rfl (Y_within q 1 ((p.t.marks.length : Nat) : Int)) rfl (fun _ _ => trivial)) ?_
  rintro _ _ ⟨_, ⟨rfl, rfl⟩, rfl⟩
  refine jA (kP rfl) <| jD <| jB ?_
  rcases Bool.eq_false_or_eq_true (within 1 q ((p.t.marks.length : Nat) : Int)) with h_7 | h_7
  · have hwi := within_true h_7
    refine jP (cB (cN h_7)) <| jU <| jB <| jC <| jr [bk b_6 31 (xc p)] 14 mixed (by simp) <| jI 0 rfl (jJ fo31_4 rfl) <| jh 1 rfl (jV 0 (v := .slice p.x.a0 p.t.calls.length p.x.c0) rfl rfl gb rfl) <| jI 2 rfl (jJ fo31_7 rfl) <| jh 3 rfl (jV 0 (v := .slice p.x.a4 p.t.marks.length p.x.c4) rfl rfl gS rfl) <| jI 4 rfl (jF (v := iv q) rfl) ?_
    obtain ⟨kk_8, hkk_9⟩ : ∃ kk_8 : Nat, q - 1 = ((kk_8 : Nat) : Int) := ⟨(q - 1).toNat, by omega⟩
    refine jI 5 rfl (PO.castVD (kW (c := q - 1) rfl rfl (wr (by omega))) (congrArg (Value.int .i64) hkk_9)) ?_
    obtain ⟨hr_10, hr_10b, -⟩ := sees_some hs_5 (by omega)
    refine jI 6 rfl (jl (i := kk_8) gB kt hr_10 hr_10b rfl rfl (by omega)) <| jh 7 rfl (kK (v := iv (p.t.marks.getD kk_8 0)) hs_5 nM rfl kp (atI (by omega))) <| jI 8 rfl (jJ fo31_4 rfl) <| jh 9 rfl (jV 0 (v := .slice p.x.a0 p.t.calls.length p.x.c0) rfl rfl gb rfl) <| jI 10 rfl (jp gD rfl) <| jQ (i := 11) ?_
    refine jY rfl rfl (jM [] Tryz.call37 rfl (Y_implbro (p.t.marks.getD kk_8 0) p.t.calls.length) rfl (fun _ _ => trivial)) ?_
    rintro _ _ ⟨_, ⟨rfl, rfl⟩, rfl⟩
    have hbro10 := bro_le (p.t.marks.getD kk_8 0) p.t.calls.length
    refine ⟨by simp, ?_⟩
    obtain ⟨hf_11m, hf_11x, hf_11s, hf_11l⟩ := sees_fits hs_1
    have hcs_12 : ((p.t.calls.drop (bro (p.t.marks.getD kk_8 0) p.t.calls.length)).take (p.t.calls.length - (bro (p.t.marks.getD kk_8 0) p.t.calls.length))).length = p.t.calls.length - (bro (p.t.marks.getD kk_8 0) p.t.calls.length) := (by simp only [List.length_take, List.length_drop]; omega)
    refine jI 12 rfl (PO.castSl (k := ((p.t.calls.drop (bro (p.t.marks.getD kk_8 0) p.t.calls.length)).take (p.t.calls.length - (bro (p.t.marks.getD kk_8 0) p.t.calls.length))).length) (PO.sliceVl (i := (bro (p.t.marks.getD kk_8 0) p.t.calls.length)) gD ko hf_11s rfl rfl (by omega)) (by simp only [List.length_take, List.length_drop]; omega)) <| jQ (i := 13) ?_
    refine jY rfl rfl (jM [] Tryz.call49 rfl (Z_cloneK (subA 6 p.x.a0 p.x.c0 (bro (p.t.marks.getD kk_8 0) p.t.calls.length)) (p.x.c0 - (bro (p.t.marks.getD kk_8 0) p.t.calls.length)) ((p.t.calls.drop (bro (p.t.marks.getD kk_8 0) p.t.calls.length)).take (p.t.calls.length - (bro (p.t.marks.getD kk_8 0) p.t.calls.length))) (by omega)) rfl (fun w hw => castSees (subK (hw.seeOut_ hs_1 nM) (bro (p.t.marks.getD kk_8 0) p.t.calls.length) p.t.calls.length (by omega) (by omega)) (by simp only [List.length_take, List.length_drop]; omega))) ?_
    rintro _ _ ⟨_, ⟨a_15, c_16, rfl, rfl⟩, rfl⟩
    refine ⟨by simp, ?_⟩
    refine jI 14 rfl (jG (v := .slice a_15 (((p.t.calls.drop (bro (p.t.marks.getD kk_8 0) p.t.calls.length)).take (p.t.calls.length - (bro (p.t.marks.getD kk_8 0) p.t.calls.length))).length) c_16) rfl) <| kI (by kernel_rfl) <| jB <| jL <| jR (.inl rfl) rfl (jN (v := .slice a_15 (((p.t.calls.drop (bro (p.t.marks.getD kk_8 0) p.t.calls.length)).take (p.t.calls.length - (bro (p.t.marks.getD kk_8 0) p.t.calls.length))).length) c_16) rfl) (tS 1 _) ?_
    have hm : p.t.since q = p.t.calls.drop (bro (p.t.marks.getD kk_8 0) p.t.calls.length) := by unfold TD.since; rw [if_pos hwi, hkk_9, Int.toNat_natCast]
    have hb_ := bro_le (p.t.marks.getD kk_8 0) p.t.calls.length
    have he : (p.t.calls.drop (bro (p.t.marks.getD kk_8 0) p.t.calls.length)).take (p.t.calls.length - (bro (p.t.marks.getD kk_8 0) p.t.calls.length)) = p.t.since q := by rw [hm]; first | rfl | (rw [← List.length_drop, List.take_length]) | (simp only [List.nil_append]; rw [List.take_of_length_le (by rw [List.length_drop]; omega)]) | rw [List.take_of_length_le (by rw [List.length_drop]; omega)]
    exact ⟨a_15, c_16, by rw [← he], by rw [← he] <;> rfl⟩
  have hwi := within_false h_7
  refine jO (cB (cN h_7)) <| jC <| jE <| jA (jG (v := .slice none 0 0) rfl) <| jD <| jB <| jL <| jW <| JQ.nilRow 51 6 <| jR (.inl rfl) rfl (jN (v := .slice none 0 0) rfl) (tS 1 _) ?_
  have hm : p.t.since q = [] := if_neg hwi
  exact ⟨none, 0, by rw [hm] <;> rfl, by rw [hm] <;> rfl⟩

set_option maxRecDepth 4000 in
set_option maxHeartbeats 1000000 in
theorem Y_sSince (p : TX) (hl : p.t.lim 1000000000) (q : Int) (h_q : -9223372036854775808 ≤ q ∧ q ≤ 9223372036854775807) :
    Ct Tryz.prog 18 [.agg #[.int .i64 p.t.id, .int .i64 p.t.age, .int .i64 p.t.proc, .int .i64 p.t.began, .slice p.x.a0 p.t.calls.length p.x.c0, .slice p.x.a1 p.t.ans.length p.x.c1, .slice p.x.a2 p.t.rd.length p.x.c2, .slice p.x.a3 p.t.wr.length p.x.c3, .slice p.x.a4 p.t.marks.length p.x.c4, .int .i64 p.t.state], .int .i64 q] [] (fun w => SeesA w (rdsX p)) (fun v A' => ∃ a c, v = .slice a (p.t.since q).length c ∧ A' = [Res.row (.slice a ((p.t.since q).length) c) 51 6 ((p.t.since q).length) ((p.t.since q).flatMap encK)]) := by
  refine Ct.intro Tryz.func18 rfl Tryz.ntmps18 (lb rfl) fun w0 hpre => ?_
  obtain ⟨hs_1, hs_2, hs_3, hs_4, hs_5⟩ := seesX hpre
  obtain ⟨hl0_, hl1_, hl2_, hl3_, hl4_⟩ := id hl
  refine jC <| jE ?_
  refine jH rfl (jy (cs := (xc p)) rfl rfl) ?_
  rintro _ _ ⟨b_6, rfl, rfl⟩
  refine jA (jG (v := .slice none 0 0) rfl) <| jD <| jB <| jC <| jC <| jE <| jA (jF (v := iv q) rfl) <| jA (jJ fo31_7 rfl) <| jK (jV 0 (v := .slice p.x.a4 p.t.marks.length p.x.c4) rfl rfl gS rfl) <| jA (jp gB rfl) ?_
  refine jH rfl (jM [] Tryz.call40 rfl (Y_l01In q 1 ((p.t.marks.length : Nat) : Int)) rfl (fun _ _ => trivial)) ?_
  rintro _ _ ⟨_, ⟨rfl, rfl⟩, rfl⟩
  refine jA (kP rfl) <| jD <| jB ?_
  rcases Bool.eq_false_or_eq_true (within 1 q ((p.t.marks.length : Nat) : Int)) with h_7 | h_7
  · have hwi := within_true h_7
    refine jP (cB (cN h_7)) <| jU <| jB <| jC <| jr [bk b_6 31 (xc p)] 15 mixed (by simp) <| jI 1 rfl (jJ fo31_4 rfl) <| jh 2 rfl (jV 0 (v := .slice p.x.a0 p.t.calls.length p.x.c0) rfl rfl gb rfl) <| jI 3 rfl (jJ fo31_7 rfl) <| jh 4 rfl (jV 0 (v := .slice p.x.a4 p.t.marks.length p.x.c4) rfl rfl gS rfl) <| jI 5 rfl (jF (v := iv q) rfl) ?_
    obtain ⟨kk_14, hkk_15⟩ : ∃ kk_14 : Nat, q - 1 = ((kk_14 : Nat) : Int) := ⟨(q - 1).toNat, by omega⟩
    refine jI 6 rfl (PO.castVD (kW (c := q - 1) rfl rfl (wr (by omega))) (congrArg (Value.int .i64) hkk_15)) ?_
    obtain ⟨hr_17, hr_17b, -⟩ := sees_some hs_5 (by omega)
    refine jI 7 rfl (jl (i := kk_14) gB kt hr_17 hr_17b rfl rfl (by omega)) <| jh 8 rfl (kK (v := iv (p.t.marks.getD kk_14 0)) hs_5 nM rfl kp (atI (by omega))) <| jI 9 rfl (jJ fo31_4 rfl) <| jh 10 rfl (jV 0 (v := .slice p.x.a0 p.t.calls.length p.x.c0) rfl rfl gb rfl) <| jI 11 rfl (jp gD rfl) ?_
    refine kX (i := 0) (j := 12) (by kernel_rfl) ?_ ?_
    · refine jY rfl rfl (kJ (ps := []) (cur := #[]) gD ko gr rfl (by kernel_rfl) (by decide) (by decide)) ?_
      rintro _ _ ⟨a_23, rfl, rfl⟩
      refine ⟨by simp, ?_⟩
      refine jQ (i := 12) ?_
      refine jY rfl rfl (jM [] Tryz.call41 rfl (Y_specbro (p.t.marks.getD kk_14 0) p.t.calls.length) rfl (fun _ _ => trivial)) ?_
      rintro _ _ ⟨_, ⟨rfl, rfl⟩, rfl⟩
      have hbro23 := bro_le (p.t.marks.getD kk_14 0) p.t.calls.length
      refine ⟨by simp, ?_⟩
      obtain ⟨hf_24m, hf_24x, hf_24s, hf_24l⟩ := sees_fits hs_1
      have hcs_25 : ((p.t.calls.drop (bro (p.t.marks.getD kk_14 0) p.t.calls.length)).take (p.t.calls.length - (bro (p.t.marks.getD kk_14 0) p.t.calls.length))).length = p.t.calls.length - (bro (p.t.marks.getD kk_14 0) p.t.calls.length) := (by simp only [List.length_take, List.length_drop]; omega)
      refine jI 13 rfl (PO.castSl (k := ((p.t.calls.drop (bro (p.t.marks.getD kk_14 0) p.t.calls.length)).take (p.t.calls.length - (bro (p.t.marks.getD kk_14 0) p.t.calls.length))).length) (PO.sliceVl (i := (bro (p.t.marks.getD kk_14 0) p.t.calls.length)) gD ko hf_24s rfl rfl (by omega)) (by simp only [List.length_take, List.length_drop]; omega)) <| jQ (i := 14) ?_
      refine jY rfl rfl (kM 0 (q := (((p.t.calls.drop (bro (p.t.marks.getD kk_14 0) p.t.calls.length)).take (p.t.calls.length - (bro (p.t.marks.getD kk_14 0) p.t.calls.length))).length)) (news := ((p.t.calls.drop (bro (p.t.marks.getD kk_14 0) p.t.calls.length)).take (p.t.calls.length - (bro (p.t.marks.getD kk_14 0) p.t.calls.length))).flatMap encK) (n' := ((p.t.calls.drop (bro (p.t.marks.getD kk_14 0) p.t.calls.length)).take (p.t.calls.length - (bro (p.t.marks.getD kk_14 0) p.t.calls.length))).length) (cs' := ((p.t.calls.drop (bro (p.t.marks.getD kk_14 0) p.t.calls.length)).take (p.t.calls.length - (bro (p.t.marks.getD kk_14 0) p.t.calls.length))).flatMap encK) rfl gD gD Tryz.typeInfo51 rfl (by' := 72) rfl rfl rfl rfl rfl (fun w hw => Src.sees (castSees (subK (hw.seeOut_ hs_1 nM) (bro (p.t.marks.getD kk_14 0) p.t.calls.length) p.t.calls.length (by omega) (by omega)) (by simp only [List.length_take, List.length_drop]; omega)) (oneK _)) (by (try simp only [LE]); omega) (by (try simp only [LE]); omega) (by (try simp only [List.length_take, List.length_drop]); first | rfl | omega) rfl) ?_
      rintro _ _ ⟨a_28, c_29, rfl, rfl⟩
      refine ⟨by simp, ?_⟩
      refine jI 15 rfl (jG (v := .slice a_28 (((p.t.calls.drop (bro (p.t.marks.getD kk_14 0) p.t.calls.length)).take (p.t.calls.length - (bro (p.t.marks.getD kk_14 0) p.t.calls.length))).length) c_29) rfl) <| kI (by kernel_rfl) <| jB <| jL <| jR (.inl rfl) rfl (jN (v := .slice a_28 (((p.t.calls.drop (bro (p.t.marks.getD kk_14 0) p.t.calls.length)).take (p.t.calls.length - (bro (p.t.marks.getD kk_14 0) p.t.calls.length))).length) c_29) rfl) (tS 1 _) ?_
      have hm : p.t.since q = p.t.calls.drop (bro (p.t.marks.getD kk_14 0) p.t.calls.length) := by unfold TD.since; rw [if_pos hwi, hkk_15, Int.toNat_natCast]
      have hb_ := bro_le (p.t.marks.getD kk_14 0) p.t.calls.length
      have he : (p.t.calls.drop (bro (p.t.marks.getD kk_14 0) p.t.calls.length)).take (p.t.calls.length - (bro (p.t.marks.getD kk_14 0) p.t.calls.length)) = p.t.since q := by rw [hm]; first | rfl | (rw [← List.length_drop, List.take_length]) | (simp only [List.nil_append]; rw [List.take_of_length_le (by rw [List.length_drop]; omega)]) | rw [List.take_of_length_le (by rw [List.length_drop]; omega)]
      exact ⟨a_28, c_29, by rw [← he], by rw [← he] <;> rfl⟩
    refine jY rfl rfl (jM [] Tryz.call41 rfl (Y_specbro (p.t.marks.getD kk_14 0) p.t.calls.length) rfl (fun _ _ => trivial)) ?_
    rintro _ _ ⟨_, ⟨rfl, rfl⟩, rfl⟩
    have hbro29 := bro_le (p.t.marks.getD kk_14 0) p.t.calls.length
    refine ⟨by simp, ?_⟩
    obtain ⟨hf_31m, hf_31x, hf_31s, hf_31l⟩ := sees_fits hs_1
    have hcs_32 : ((p.t.calls.drop (bro (p.t.marks.getD kk_14 0) p.t.calls.length)).take (p.t.calls.length - (bro (p.t.marks.getD kk_14 0) p.t.calls.length))).length = p.t.calls.length - (bro (p.t.marks.getD kk_14 0) p.t.calls.length) := (by simp only [List.length_take, List.length_drop]; omega)
    refine jI 13 rfl (PO.castSl (k := ((p.t.calls.drop (bro (p.t.marks.getD kk_14 0) p.t.calls.length)).take (p.t.calls.length - (bro (p.t.marks.getD kk_14 0) p.t.calls.length))).length) (PO.sliceVl (i := (bro (p.t.marks.getD kk_14 0) p.t.calls.length)) gD ko hf_31s rfl rfl (by omega)) (by simp only [List.length_take, List.length_drop]; omega)) <| jQ (i := 0) ?_
    refine jY rfl rfl (kJ (ps := []) (cur := #[]) gD ko gr rfl (by kernel_rfl) (by decide) (by decide)) ?_
    rintro _ _ ⟨a_34, rfl, rfl⟩
    refine ⟨by simp, ?_⟩
    refine jQ (i := 14) ?_
    refine jY rfl rfl (kM 0 (q := (((p.t.calls.drop (bro (p.t.marks.getD kk_14 0) p.t.calls.length)).take (p.t.calls.length - (bro (p.t.marks.getD kk_14 0) p.t.calls.length))).length)) (news := ((p.t.calls.drop (bro (p.t.marks.getD kk_14 0) p.t.calls.length)).take (p.t.calls.length - (bro (p.t.marks.getD kk_14 0) p.t.calls.length))).flatMap encK) (n' := ((p.t.calls.drop (bro (p.t.marks.getD kk_14 0) p.t.calls.length)).take (p.t.calls.length - (bro (p.t.marks.getD kk_14 0) p.t.calls.length))).length) (cs' := ((p.t.calls.drop (bro (p.t.marks.getD kk_14 0) p.t.calls.length)).take (p.t.calls.length - (bro (p.t.marks.getD kk_14 0) p.t.calls.length))).flatMap encK) rfl gD gD Tryz.typeInfo51 rfl (by' := 72) rfl rfl rfl rfl rfl (fun w hw => Src.sees (castSees (subK (hw.seeOut_ hs_1 nM) (bro (p.t.marks.getD kk_14 0) p.t.calls.length) p.t.calls.length (by omega) (by omega)) (by simp only [List.length_take, List.length_drop]; omega)) (oneK _)) (by (try simp only [LE]); omega) (by (try simp only [LE]); omega) (by (try simp only [List.length_take, List.length_drop]); first | rfl | omega) rfl) ?_
    rintro _ _ ⟨a_37, c_38, rfl, rfl⟩
    refine ⟨by simp, ?_⟩
    refine jI 15 rfl (jG (v := .slice a_37 (((p.t.calls.drop (bro (p.t.marks.getD kk_14 0) p.t.calls.length)).take (p.t.calls.length - (bro (p.t.marks.getD kk_14 0) p.t.calls.length))).length) c_38) rfl) <| kI (by kernel_rfl) <| jB <| jL <| jR (.inl rfl) rfl (jN (v := .slice a_37 (((p.t.calls.drop (bro (p.t.marks.getD kk_14 0) p.t.calls.length)).take (p.t.calls.length - (bro (p.t.marks.getD kk_14 0) p.t.calls.length))).length) c_38) rfl) (tS 1 _) ?_
    have hm : p.t.since q = p.t.calls.drop (bro (p.t.marks.getD kk_14 0) p.t.calls.length) := by unfold TD.since; rw [if_pos hwi, hkk_15, Int.toNat_natCast]
    have hb_ := bro_le (p.t.marks.getD kk_14 0) p.t.calls.length
    have he : (p.t.calls.drop (bro (p.t.marks.getD kk_14 0) p.t.calls.length)).take (p.t.calls.length - (bro (p.t.marks.getD kk_14 0) p.t.calls.length)) = p.t.since q := by rw [hm]; first | rfl | (rw [← List.length_drop, List.take_length]) | (simp only [List.nil_append]; rw [List.take_of_length_le (by rw [List.length_drop]; omega)]) | rw [List.take_of_length_le (by rw [List.length_drop]; omega)]
    exact ⟨a_37, c_38, by rw [← he], by rw [← he] <;> rfl⟩
  have hwi := within_false h_7
  refine jO (cB (cN h_7)) <| jC <| jE ?_
  refine jH rfl (kJ (ps := []) (cur := #[]) gD ko gr rfl (by kernel_rfl) (by decide) (by decide)) ?_
  rintro _ _ ⟨a_39, rfl, rfl⟩
  refine jA (jG (v := .slice a_39 0 0) rfl) <| jD <| jB <| jL <| jW <| jR (.inl rfl) rfl (jN (v := .slice a_39 0 0) rfl) (tS 1 _) ?_
  have hm : p.t.since q = [] := if_neg hwi
  exact ⟨a_39, 0, by rw [hm] <;> rfl, by rw [hm] <;> rfl⟩

end Go.Proofs.YtghfijncihbojaaGreat

set_option linter.unusedSimpArgs false
set_option linter.unusedVariables false
set_option linter.unnecessarySimpa false
namespace Go.Proofs.YtghfijncihbojaaGreat
open Go Go.RowKit
theorem grow3 {i : Nat} (h : i ≤ 11) : grow 3 i ≤ 2800000 := Nat.le_trans (grow_le 3 h) (by decide)
theorem growT3 {i : Nat} (h : i ≤ 11) : growT 3 0 i ≤ 20000000 := Nat.le_trans (growT_le 3 0 h) (by decide)
structure isStore (c : CL) : Prop where
  k : c.kind = 20
  a : 0 ≤ c.a ∧ c.a ≤ 3
  b : c.b = 0
  n : c.name = []
  t : c.to_ = []
  x : c.text = [97, 98]
theorem isStore.ok {c : CL} (h : isStore c) : c.ok 1048576 := by
  obtain ⟨h1, h2, h3, h4, h5, h6⟩ := h
  refine ⟨by omega, by omega, by omega, by rw [h4]; exact Nat.zero_le _, by rw [h5]; exact Nat.zero_le _, by rw [h6]; decide⟩
/-- A transaction of i page calls. -/
structure stInv (i : Nat) (t : TD) : Prop where
  s : t.state = 1
  p : t.proc = 1
  n : t.calls.length = i
  cs : ∀ c ∈ t.calls, isStore c
  r : t.rd.length ≤ i * 20000000
  w : t.wr.length ≤ i * 20000000
  a : t.ans.length = i
  m : t.marks.length = 0
theorem stInv.lim {i : Nat} {t : TD} (h : stInv i t) (hi : i ≤ 12) : t.lim 500000000 := ⟨by have := h.n; omega, by have := h.a; omega, by have := h.r; omega, by have := h.w; omega, by have := h.m; omega⟩
theorem stInv.okT {i : Nat} {t : TD} (h : stInv i t) (hi : i ≤ 12) : okT t := ⟨fun c hc => (h.cs c hc).ok, by have := h.n; omega, by have := h.p; omega⟩
theorem stInv.new : stInv 0 (TD.new 1 1 1) := ⟨rfl, rfl, rfl, (fun _ h => by cases h), Nat.zero_le _, Nat.zero_le _, rfl, rfl⟩
/-- What is told of a transaction that marks and asks. -/
structure mkInv (i : Nat) (t : TD) : Prop where
  s : t.state = 1
  p : t.proc = 1
  n : t.calls.length = i
  cs : ∀ c ∈ t.calls, c.ok 1048576
  r : t.rd.length ≤ i * 20000000
  w : t.wr.length ≤ i * 20000000
  a : t.ans.length = i
  m : t.marks = (List.range i).map fun k => ((k : Nat) : Int)
theorem mkInv.new : mkInv 0 (TD.new 1 1 1) := ⟨rfl, rfl, rfl, (fun _ h => by cases h), Nat.zero_le _, Nat.zero_le _, rfl, rfl⟩
theorem mkInv.ml {i : Nat} {t : TD} (h : mkInv i t) : t.marks.length = i := by rw [h.m, List.length_map, List.length_range]
theorem mkInv.lim {i : Nat} {t : TD} (h : mkInv i t) (hi : i ≤ 12) : t.lim 500000000 := ⟨by have := h.n; omega, by have := h.a; omega, by have := h.r; omega, by have := h.w; omega, by have := h.ml; omega⟩
end Go.Proofs.YtghfijncihbojaaGreat

set_option linter.unusedSimpArgs false
set_option linter.unusedVariables false
set_option linter.unnecessarySimpa false
namespace Go.Proofs.YtghfijncihbojaaGreat
open Go Go.RowKit
def sortedL (l : List Int) : Prop := ∀ i, i + 1 < l.length → l.getD i 0 ≤ l.getD (i + 1) 0
def insideL (n : Int) (l : List Int) : Prop := ∀ i, i < l.length → 0 ≤ l.getD i 0 ∧ l.getD i 0 ≤ n
def TD.mok (t : TD) : Prop := (t.marks.length : Int) ≤ 4 ∧ sortedL t.marks ∧ insideL t.calls.length t.marks
theorem iffB {a b : Bool} {p : Prop} (h : a = true ↔ p) (h2 : b = true ↔ p) : a = b := by
  cases a <;> cases b <;> simp_all
attribute [local irreducible] JL JC JQ JO LO PO JA JX Ct

theorem Y_nan (a : Int) :
    Ct Tryz.prog 148 [.int .i64 a] [] (fun _ => True) (fun v A' => v = .bool false ∧ A' = []) := by
  refine Ct.intro Tryz.func148 rfl Tryz.ntmps148 (lb rfl) fun w0 hpre => ?_
  refine jC <| jE <| jA (jG (v := .bool false) rfl) <| jD <| jB <| jC <| jE <| jA (jF (v := iv a) rfl) <| jA (jF (v := iv a) rfl) <| jA (kN rfl rfl) ?_
  refine jA (jG (v := .bool (!(decide (a = a)))) rfl) <| jD <| jB <| jL <| jR (.inl rfl) rfl (jN (v := .bool (!(decide (a = a)))) rfl) (List.nil_sublist _) ?_
  exact ⟨cB (by simp), rfl⟩

theorem Y_less (a b : Int) :
    Ct Tryz.prog 92 [.int .i64 a, .int .i64 b] [] (fun _ => True) (fun v A' => v = .bool (decide (a < b)) ∧ A' = []) := by
  refine Ct.intro Tryz.func92 rfl Tryz.ntmps92 (lb rfl) fun w0 hpre => ?_
  refine jC <| jE <| jA (jG (v := .bool false) rfl) <| jD <| jB <| jC <| jE <| jA (jF (v := iv a) rfl) ?_
  refine jH rfl (jM [] Tryz.call148 rfl (Y_nan a) rfl (fun _ _ => trivial)) ?_
  rintro _ _ ⟨_, ⟨rfl, rfl⟩, rfl⟩
  refine jA (jF (v := .bool false) rfl) <| jS (b := false) rfl rfl rfl (cB rfl) <| jS (b := false) rfl rfl rfl (cB rfl) <| jS (b := false) rfl rfl rfl (cB rfl) <| jA (jv (v := .bool false) (cB rfl) rfl) <| jA (jF (v := .bool false) rfl) <| jZ rfl rfl rfl (cB rfl) (ja (jf (jF (v := iv a) rfl))) ?_
  rintro _ _ ⟨rfl, rfl⟩
  refine jZ rfl rfl rfl (cB rfl) (ja (jf (jF (v := iv b) rfl))) ?_
  rintro _ _ ⟨rfl, rfl⟩
  refine jZ rfl rfl rfl (cB rfl) (ja (jf (jo rfl rfl))) ?_
  rintro _ _ ⟨rfl, rfl⟩
  refine jA (jv (v := .bool (decide (a < b))) (cB rfl) rfl) <| jA (jG (v := .bool (decide (a < b))) rfl) <| jD <| jB <| jL <| jR (.inl rfl) rfl (jN (v := .bool (decide (a < b))) rfl) (List.nil_sublist _) ?_
  exact ⟨rfl, rfl⟩

theorem C_sortedI (a : Option Addr) (c : Nat) (s : List Int) (hs : s.length ≤ 1000000000) :
    Ct Tryz.prog 46 [.slice a s.length c] [] (fun w => Sees w (.slice a s.length c) 1 s.length (s.map (Value.int .i64))) (fun v A' => ∃ b : Bool, (b = true ↔ sortedL s) ∧ v = .bool b ∧ A' = []) := by
  refine Ct.intro Tryz.func46 rfl Tryz.ntmps46 (lb rfl) fun w0 hpre => ?_
  have hs_a : Sees w0 _ _ _ _ := hpre
  refine jC <| jE <| jA (jG (v := .bool false) rfl) <| jD <| jB <| jC <| jC <| jE <| jA (jF (v := .slice a s.length c) rfl) <| jA (jp gB rfl) ?_
  refine jA (kW (c := ((s.length : Nat) : Int) - 1) rfl rfl (wr (by omega))) <| jA (jG (v := iv (((s.length : Nat) : Int) - 1)) rfl) <| jD <| jB <| jg <| kC (fun k_ e_ L_ => ∃ z_ : Int, (-1 ≤ z_ ∧ z_ < ((s.length : Nat) : Int)) ∧ (∀ i : Nat, z_ ≤ ((i : Nat) : Int) → i + 1 < s.length → s.getD i 0 ≤ s.getD (i + 1) 0) ∧ e_ 0 = .slice a s.length c ∧ e_ 3 = iv z_ ∧ L_ = [] ∧ k_ = (z_ + 1).toNat) _ ⟨(((s.length : Nat) : Int) - 1), by omega, (fun i h1 h2 => by exfalso; omega), rfl, rfl, rfl, rfl⟩ ?_
  rintro _ e_1 _ ⟨z_, hz, hN, he_2, he_3, rfl, rfl⟩
  refine jC <| jC <| jE <| jA (jF (v := iv z_) he_3) <| jA (ke rfl rfl) <| jD <| jB ?_
  by_cases h_4 : 0 < z_
  · obtain ⟨kk, hkk⟩ : ∃ kk : Nat, z_ = ((kk + 1 : Nat) : Int) := ⟨z_.toNat - 1, by omega⟩
    refine jO (cB (dT h_4)) <| jU <| jB <| jC <| jg <| jC <| jr [] 9 mixed (by simp) <| jI 0 rfl (jF (v := .slice a s.length c) he_2) <| jI 1 rfl (jF (v := iv ((kk + 1 : Nat) : Int)) (he_3.trans (congrArg (Value.int .i64) hkk))) ?_
    obtain ⟨hr_5, hr_5b, -⟩ := sees_some hs_a (by omega)
    refine jI 2 rfl (jl (i := (kk + 1)) gB kt hr_5 hr_5b rfl rfl (by omega)) <| jh 3 rfl (kK (v := iv (s.getD (kk + 1) 0)) hs_a nM rfl kp (atI (by omega))) <| jI 4 rfl (jF (v := .slice a s.length c) he_2) <| jI 5 rfl (jF (v := iv ((kk + 1 : Nat) : Int)) (he_3.trans (congrArg (Value.int .i64) hkk))) <| jI 6 rfl (kW (c := ((kk : Nat) : Int)) rfl rfl (wr (by omega))) <| jI 7 rfl (jl (i := kk) gB kt hr_5 hr_5b rfl rfl (by omega)) <| jh 8 rfl (kK (v := iv (s.getD kk 0)) hs_a nM rfl kp (atI (by omega))) <| jQ (i := 9) ?_
    refine jx rfl (jM [] Tryz.call92 rfl (Y_less (s.getD (kk + 1) 0) (s.getD kk 0)) rfl (fun _ _ => trivial)) ?_
    rintro _ _ ⟨_, ⟨rfl, rfl⟩, rfl⟩
    refine jB ?_
    by_cases h_6 : (s.getD (kk + 1) 0) < (s.getD kk 0)
    · refine jO (cB (dT h_6)) <| jC <| jE <| jA (jG (v := .bool false) rfl) <| jD <| jB <| jL <| jq <| jW <| jW ?_
      refine jq <| jW <| jR (.inl rfl) rfl (jN (v := .bool false) rfl) (List.nil_sublist _) ?_
      exact ⟨false, ⟨fun h_ => (by cases h_), fun h_ => by have h2_ := h_ kk (by omega); omega⟩, rfl, rfl⟩
    refine jP (cB (dF h_6)) <| jU <| jk <| jB <| jE <| jA (jF (v := iv ((kk + 1 : Nat) : Int)) (he_3.trans (congrArg (Value.int .i64) hkk))) <| jA (kW (c := ((kk : Nat) : Int)) rfl rfl (wr (by omega))) <| jA (jG (v := nv kk) rfl) <| jD ?_
    refine ju (kk + 1) (by omega) ⟨((kk : Nat) : Int), by omega, (fun i h1 h2 => if h : i = kk then by subst h; omega else hN i (by omega) h2), he_2, rfl, rfl, rfl⟩
  refine jP (cB (dF h_4)) <| jz <| jj <| jj <| kA <| jB <| jC <| jE <| jA (jG (v := .bool true) rfl) <| jD ?_
  refine jB <| jL <| jR (.inl rfl) rfl (jN (v := .bool true) rfl) (List.nil_sublist _) ?_
  exact ⟨true, ⟨fun _ i hi => hN i (by omega) hi, fun _ => rfl⟩, rfl, rfl⟩

theorem C_mok1 (kb : Nat) (p : TX) (hn : p.t.calls.length ≤ 1000000000) (x : Int) :
    Ct Tryz.prog 48 [.int .i64 x, .pointer (some ⟨kb, 0, none⟩)] [bk kb 31 [.int .i64 p.t.id, .int .i64 p.t.age, .int .i64 p.t.proc, .int .i64 p.t.began, .slice p.x.a0 p.t.calls.length p.x.c0, .slice p.x.a1 p.t.ans.length p.x.c1, .slice p.x.a2 p.t.rd.length p.x.c2, .slice p.x.a3 p.t.wr.length p.x.c3, .slice p.x.a4 p.t.marks.length p.x.c4, .int .i64 p.t.state]] (fun _ => True) (fun v A' => v = .bool (!(decide (0 ≤ x) && decide (x ≤ ((p.t.calls.length : Nat) : Int)))) ∧ A' = [bk kb 31 [.int .i64 p.t.id, .int .i64 p.t.age, .int .i64 p.t.proc, .int .i64 p.t.began, .slice p.x.a0 p.t.calls.length p.x.c0, .slice p.x.a1 p.t.ans.length p.x.c1, .slice p.x.a2 p.t.rd.length p.x.c2, .slice p.x.a3 p.t.wr.length p.x.c3, .slice p.x.a4 p.t.marks.length p.x.c4, .int .i64 p.t.state]]) := by
  refine Ct.intro Tryz.func48 rfl Tryz.ntmps48 (lb rfl) fun w0 hpre => ?_
  refine jC <| jE <| jA (jG (v := .bool false) rfl) <| jD <| jB <| jC <| jE <| jA (jF (v := iv x) rfl) <| jA (jJ fo31_4 rfl) <| jK (jV 0 (v := .slice p.x.a0 p.t.calls.length p.x.c0) rfl rfl gb rfl) ?_
  refine jA (jp gD rfl) ?_
  refine jH rfl (jM [] Tryz.call35 rfl (Y_within x 0 ((p.t.calls.length : Nat) : Int)) rfl (fun _ _ => trivial)) ?_
  rintro _ _ ⟨_, ⟨rfl, rfl⟩, rfl⟩
  refine jA (kP rfl) <| jA (jG (v := .bool (!(within 0 x ((p.t.calls.length : Nat) : Int)))) rfl) <| jD <| jB <| jL <| jR (.inl rfl) rfl (jN (v := .bool (!(within 0 x ((p.t.calls.length : Nat) : Int)))) rfl) (List.Sublist.refl _) ?_
  exact ⟨rfl, rfl⟩

theorem C_ixMok (a : Option Addr) (c : Nat) (s : List Int) (hs : s.length ≤ 1000000000) (kb : Nat) (p : TX) (hn : p.t.calls.length ≤ 1000000000) :
    Ct Tryz.prog 93 [.slice a s.length c, .func (.func 48) #[] #[.pointer (some ⟨kb, 0, none⟩)]] [bk kb 31 [.int .i64 p.t.id, .int .i64 p.t.age, .int .i64 p.t.proc, .int .i64 p.t.began, .slice p.x.a0 p.t.calls.length p.x.c0, .slice p.x.a1 p.t.ans.length p.x.c1, .slice p.x.a2 p.t.rd.length p.x.c2, .slice p.x.a3 p.t.wr.length p.x.c3, .slice p.x.a4 p.t.marks.length p.x.c4, .int .i64 p.t.state]] (fun w => Sees w (.slice a s.length c) 1 s.length (s.map (Value.int .i64)) ∧ (∀ b, (Value.slice a s.length c).ownBlock = some b → b ≠ kb)) (fun v A' => ∃ r : Int, (r < 0 ∧ insideL ((p.t.calls.length : Nat) : Int) s ∨ 0 ≤ r ∧ ¬ insideL ((p.t.calls.length : Nat) : Int) s) ∧ v = .int .i64 r ∧ A' = [bk kb 31 [.int .i64 p.t.id, .int .i64 p.t.age, .int .i64 p.t.proc, .int .i64 p.t.began, .slice p.x.a0 p.t.calls.length p.x.c0, .slice p.x.a1 p.t.ans.length p.x.c1, .slice p.x.a2 p.t.rd.length p.x.c2, .slice p.x.a3 p.t.wr.length p.x.c3, .slice p.x.a4 p.t.marks.length p.x.c4, .int .i64 p.t.state]]) := by
  refine Ct.intro Tryz.func93 rfl Tryz.ntmps93 (lb rfl) fun w0 hpre => ?_
  have hs_a : Sees w0 _ _ _ _ := hpre.1
  refine jC <| jE <| jA (jG (v := iv 0) rfl) <| jD <| jB <| jC <| jC <| jE <| jA (jF (v := .slice a s.length c) rfl) <| jA (jp gB rfl) ?_
  refine jA (jF (v := iv 0) rfl) <| jD <| jB <| jg <| kC (fun k_ e_ L_ => ∃ j : Nat, (j ≤ s.length) ∧ (∀ i, i < j → 0 ≤ s.getD i 0 ∧ s.getD i 0 ≤ ((p.t.calls.length : Nat) : Int)) ∧ e_ 0 = .slice a s.length c ∧ e_ 1 = .func (.func 48) #[] #[.pointer (some ⟨kb, 0, none⟩)] ∧ e_ 7 = nv s.length ∧ e_ 8 = nv j ∧ L_ = [bk kb 31 (xc p)] ∧ k_ = s.length - j) _ ⟨0, by omega, (fun i hi => absurd hi (Nat.not_lt_zero i)), rfl, rfl, rfl, rfl, rfl, rfl⟩ ?_
  rintro _ e_1 _ ⟨j, hj, hN, he_2, he_3, he_4, he_5, rfl, rfl⟩
  refine jC <| jE <| jA (jo he_5 he_4) <| jD <| jB <| jC ?_
  by_cases h_6 : ((j : Nat) : Int) < ((s.length : Nat) : Int)
  · have hlt : j < s.length := by omega
    refine jO (cB (dT h_6)) <| jU <| jB <| jC <| jg <| jC <| jE <| jA (jF (v := nv j) he_5) <| jA (jG (v := nv j) rfl) <| jD ?_
    refine jB <| jC <| jE <| jA (jF (v := .func (.func 48) #[] #[.pointer (some ⟨kb, 0, none⟩)]) he_3) <| jA (jF (v := .slice a s.length c) he_2) <| jA (jF (v := nv j) rfl) ?_
    obtain ⟨hr_7, hr_7b, -⟩ := sees_some hs_a (by omega)
    refine jA (jl (i := j) gB kt hr_7 hr_7b rfl rfl (by omega)) <| jK (kK (v := iv (s.getD j 0)) hs_a (notin_bk hpre.2) rfl kp (atI (by omega))) ?_
    refine jH rfl (JO.callV [0] Tryz.call48 rfl (C_mok1 kb p hn (s.getD j 0)) rfl rfl (fun _ _ => trivial)) ?_
    rintro _ _ ⟨_, ⟨rfl, rfl⟩, rfl⟩
    refine jD <| jB ?_
    rcases Bool.eq_false_or_eq_true (decide (0 ≤ (s.getD j 0)) && decide ((s.getD j 0) ≤ ((p.t.calls.length : Nat) : Int))) with h_8 | h_8
    · have h_8d := h_8
      simp only [Bool.and_eq_true, Bool.and_eq_false_iff, decide_eq_true_eq, decide_eq_false_iff_not] at h_8d
      refine jP (cB (cN h_8)) <| jU <| jk <| jB <| jE <| jA (ji (c := ((j + 1 : Nat) : Int)) he_5 rfl (wr (by omega))) <| jA (jF (v := iv ((j + 1 : Nat) : Int)) rfl) <| jD ?_
      refine ju (s.length - (j + 1)) (by omega) ⟨j + 1, by omega, (fun i hi => if h : i = j then by subst h; omega else hN i (by omega)), he_2, he_3, he_4, rfl, rfl, rfl⟩
    have h_8d := h_8
    simp only [Bool.and_eq_true, Bool.and_eq_false_iff, decide_eq_true_eq, decide_eq_false_iff_not] at h_8d
    refine jO (cB (cN h_8)) <| jC <| jE <| jA (jF (v := nv j) rfl) <| jA (jG (v := nv j) rfl) <| jD <| jB <| jL <| jq <| jW ?_
    refine jW <| jq <| jW <| jR (.inl rfl) rfl (jN (v := nv j) rfl) (List.Sublist.refl _) ?_
    exact ⟨((j : Nat) : Int), .inr ⟨by omega, fun h_ => by have h2_ := h_ j (by omega); omega⟩, rfl, rfl⟩
  refine jP (cB (dF h_6)) <| jz <| jj <| jj <| kA <| jB <| jC <| jE <| jA (jG (v := iv (-1)) rfl) <| jD ?_
  refine jB <| jL <| jR (.inl rfl) rfl (jN (v := iv (-1)) rfl) (List.Sublist.refl _) ?_
  exact ⟨-1, .inl ⟨by decide, fun i hi => hN i (by omega)⟩, rfl, rfl⟩

theorem C_ctMok (a : Option Addr) (c : Nat) (s : List Int) (hs : s.length ≤ 1000000000) (kb : Nat) (p : TX) (hn : p.t.calls.length ≤ 1000000000) :
    Ct Tryz.prog 47 [.slice a s.length c, .func (.func 48) #[] #[.pointer (some ⟨kb, 0, none⟩)]] [bk kb 31 [.int .i64 p.t.id, .int .i64 p.t.age, .int .i64 p.t.proc, .int .i64 p.t.began, .slice p.x.a0 p.t.calls.length p.x.c0, .slice p.x.a1 p.t.ans.length p.x.c1, .slice p.x.a2 p.t.rd.length p.x.c2, .slice p.x.a3 p.t.wr.length p.x.c3, .slice p.x.a4 p.t.marks.length p.x.c4, .int .i64 p.t.state]] (fun w => Sees w (.slice a s.length c) 1 s.length (s.map (Value.int .i64)) ∧ (∀ b, (Value.slice a s.length c).ownBlock = some b → b ≠ kb)) (fun v A' => ∃ b : Bool, (b = true ↔ ¬ insideL ((p.t.calls.length : Nat) : Int) s) ∧ v = .bool b ∧ A' = [bk kb 31 [.int .i64 p.t.id, .int .i64 p.t.age, .int .i64 p.t.proc, .int .i64 p.t.began, .slice p.x.a0 p.t.calls.length p.x.c0, .slice p.x.a1 p.t.ans.length p.x.c1, .slice p.x.a2 p.t.rd.length p.x.c2, .slice p.x.a3 p.t.wr.length p.x.c3, .slice p.x.a4 p.t.marks.length p.x.c4, .int .i64 p.t.state]]) := by
  refine Ct.intro Tryz.func47 rfl Tryz.ntmps47 (lb rfl) fun w0 hpre => ?_
  have hs_a : Sees w0 _ _ _ _ := hpre.1
  refine jC <| jE <| jA (jG (v := .bool false) rfl) <| jD <| jB <| jC <| jE <| jA (jF (v := .slice a s.length c) rfl) <| jA (jF (v := .func (.func 48) #[] #[.pointer (some ⟨kb, 0, none⟩)]) rfl) ?_
  refine jH rfl (jM [0] Tryz.call93 rfl (C_ixMok a c s hs kb p hn) rfl (fun w hw => ⟨hw.seeOut_ hs_a (notin_bk hpre.2), hpre.2⟩)) ?_
  rintro _ _ ⟨_, ⟨r_1, hr_2, rfl, rfl⟩, rfl⟩
  refine jA (kh rfl rfl) <| jA (jG (v := .bool (decide (0 ≤ r_1))) rfl) <| jD <| jB <| jL <| jR (.inl rfl) rfl (jN (v := .bool (decide (0 ≤ r_1))) rfl) (List.Sublist.refl _) ?_
  exact ⟨decide (0 ≤ r_1), by rw [decide_eq_true_eq]; exact ⟨fun h_ => by rcases hr_2 with ⟨h1_, h2_⟩ | ⟨h1_, h2_⟩; exact absurd h_ (by omega); exact h2_, fun h_ => by rcases hr_2 with ⟨h1_, h2_⟩ | ⟨h1_, h2_⟩; exact absurd h2_ h_; exact h1_⟩, rfl, rfl⟩

set_option maxRecDepth 4000 in
set_option maxHeartbeats 1000000 in
theorem Y_iMok (p : TX) (hl : p.t.lim 1000000000) :
    Ct Tryz.prog 13 [.agg #[.int .i64 p.t.id, .int .i64 p.t.age, .int .i64 p.t.proc, .int .i64 p.t.began, .slice p.x.a0 p.t.calls.length p.x.c0, .slice p.x.a1 p.t.ans.length p.x.c1, .slice p.x.a2 p.t.rd.length p.x.c2, .slice p.x.a3 p.t.wr.length p.x.c3, .slice p.x.a4 p.t.marks.length p.x.c4, .int .i64 p.t.state]] [] (fun w => SeesA w (rdsX p)) (fun v A' => ∃ b : Bool, (b = true ↔ p.t.mok) ∧ v = .bool b ∧ A' = []) := by
  refine Ct.intro Tryz.func13 rfl Tryz.ntmps13 (lb rfl) fun w0 hpre => ?_
  obtain ⟨hs_1, hs_2, hs_3, hs_4, hs_5⟩ := seesX hpre
  have hlm := hl.l4
  have hlc := hl.l0
  refine jC <| jE ?_
  refine jH rfl (jy (cs := (xc p)) rfl rfl) ?_
  rintro _ _ ⟨b_6, rfl, rfl⟩
  refine jA (jG (v := .bool false) rfl) <| jD <| jB <| jC <| jE <| jA (jJ fo31_7 rfl) <| jK (jV 0 (v := .slice p.x.a4 p.t.marks.length p.x.c4) rfl rfl gS rfl) <| jA (jp gB rfl) <| jA (PO.leq rfl rfl) <| jA (jF (v := .bool (decide (((p.t.marks.length : Nat) : Int) ≤ 4))) rfl) ?_
  by_cases h_7 : ((p.t.marks.length : Nat) : Int) ≤ 4
  · refine jZ rfl rfl rfl (cB (dT h_7)) (ja (jf (jJ fo31_7 rfl))) ?_
    rintro _ _ ⟨rfl, rfl⟩
    refine jZ rfl rfl rfl (cB (dT h_7)) (ja (jV 0 (v := .slice p.x.a4 p.t.marks.length p.x.c4) rfl rfl gS rfl)) ?_
    rintro _ _ ⟨rfl, rfl⟩
    refine jZ rfl rfl rfl (cB (dT h_7)) (jM [] Tryz.call46 rfl (C_sortedI p.x.a4 p.x.c4 p.t.marks hlm) rfl (fun w hw => hw.seeOut_ hs_5 nM)) ?_
    rintro _ _ ⟨_, ⟨b_8, hb_9, rfl, rfl⟩, rfl⟩
    refine jA (kG (v := .bool b_8) (cB (dT h_7)) rfl) <| jA (jF (v := .bool b_8) rfl) ?_
    rcases Bool.eq_false_or_eq_true (b_8) with h_10 | h_10
    · refine jZ rfl rfl rfl (cB h_10) (ja (jf (jJ fo31_7 rfl))) ?_
      rintro _ _ ⟨rfl, rfl⟩
      refine jZ rfl rfl rfl (cB h_10) (ja (jV 0 (v := .slice p.x.a4 p.t.marks.length p.x.c4) rfl rfl gS rfl)) ?_
      rintro _ _ ⟨rfl, rfl⟩
      refine jZ rfl rfl rfl (cB h_10) (ja (jf (PO.makeFunc (fv := []) (cv := [.pointer (some ⟨b_6, 0, none⟩)]) rfl rfl))) ?_
      rintro _ _ ⟨rfl, rfl⟩
      refine jZ rfl rfl rfl (cB h_10) (jM [0] Tryz.call47 rfl (C_ctMok p.x.a4 p.x.c4 p.t.marks hlm b_6 p hlc) rfl (fun w hw => ⟨hw.seeOut_ hs_5 nM, hw.apartF 0 hs_5 rfl List.not_mem_nil⟩)) ?_
      rintro _ _ ⟨_, ⟨b_11, hb_12, rfl, rfl⟩, rfl⟩
      refine jZ rfl rfl rfl (cB h_10) (ja (jf (kP rfl))) ?_
      rintro _ _ ⟨rfl, rfl⟩
      refine jA (kG (v := .bool (!b_11)) (cB h_10) rfl) <| jA (jG (v := .bool (!b_11)) rfl) <| jD <| jB <| jL <| jR (.inl rfl) rfl (jN (v := .bool (!b_11)) rfl) (List.nil_sublist _) ?_
      refine ⟨!b_11, ⟨fun h_ => ⟨by omega, hb_9.1 (by assumption), Classical.byContradiction fun h2_ => by rw [hb_12.2 h2_] at h_; cases h_⟩, fun h_ => ?_⟩, rfl, rfl⟩
      rcases Bool.eq_false_or_eq_true (b_11) with h2_ | h2_
      · exact absurd h_.2.2 (hb_12.1 h2_)
      rw [h2_] <;> rfl
    refine jS (b := false) rfl rfl rfl (cB h_10) <| jS (b := false) rfl rfl rfl (cB h_10) <| jS (b := false) rfl rfl rfl (cB h_10) <| jS (b := false) rfl rfl rfl (cB h_10) <| jS (b := false) rfl rfl rfl (cB h_10) <| jA (jv (v := .bool false) (cB h_10) rfl) <| jA (jG (v := .bool false) rfl) <| jD <| jB <| jL ?_
    refine jR (.inl rfl) rfl (jN (v := .bool false) rfl) (List.nil_sublist _) ?_
    exact ⟨false, ⟨fun h_ => (by cases h_), fun h_ => by have h2_ := hb_9.2 h_.2.1; simp_all⟩, rfl, rfl⟩
  refine jS (b := false) rfl rfl rfl (cB (dF h_7)) <| jS (b := false) rfl rfl rfl (cB (dF h_7)) <| jS (b := false) rfl rfl rfl (cB (dF h_7)) <| jA (jv (v := .bool false) (cB (dF h_7)) rfl) <| jA (jF (v := .bool false) rfl) <| jS (b := false) rfl rfl rfl (cB rfl) <| jS (b := false) rfl rfl rfl (cB rfl) <| jS (b := false) rfl rfl rfl (cB rfl) <| jS (b := false) rfl rfl rfl (cB rfl) <| jS (b := false) rfl rfl rfl (cB rfl) ?_
  refine jA (jv (v := .bool false) (cB rfl) rfl) <| jA (jG (v := .bool false) rfl) <| jD <| jB <| jL <| jR (.inl rfl) rfl (jN (v := .bool false) rfl) (List.nil_sublist _) ?_
  exact ⟨false, ⟨fun h_ => (by cases h_), fun h_ => absurd h_.1 (by omega)⟩, rfl, rfl⟩

set_option maxRecDepth 4000 in
set_option maxHeartbeats 1000000 in
theorem Y_sMok (p : TX) (hl : p.t.lim 1000000000) :
    Ct Tryz.prog 14 [.agg #[.int .i64 p.t.id, .int .i64 p.t.age, .int .i64 p.t.proc, .int .i64 p.t.began, .slice p.x.a0 p.t.calls.length p.x.c0, .slice p.x.a1 p.t.ans.length p.x.c1, .slice p.x.a2 p.t.rd.length p.x.c2, .slice p.x.a3 p.t.wr.length p.x.c3, .slice p.x.a4 p.t.marks.length p.x.c4, .int .i64 p.t.state]] [] (fun w => SeesA w (rdsX p)) (fun v A' => ∃ b : Bool, (b = true ↔ p.t.mok) ∧ v = .bool b ∧ A' = []) := by
  refine Ct.intro Tryz.func14 rfl Tryz.ntmps14 (lb rfl) fun w0 hpre => ?_
  obtain ⟨hs_1, hs_2, hs_3, hs_4, hs_5⟩ := seesX hpre
  have hlm := hl.l4
  have hlc := hl.l0
  refine jC <| jE ?_
  refine jH rfl (jy (cs := (xc p)) rfl rfl) ?_
  rintro _ _ ⟨b_6, rfl, rfl⟩
  refine jA (jG (v := .bool false) rfl) <| jD <| jB <| jC <| jC <| jE <| jA (jG (v := iv 0) rfl) <| jD <| jB <| jg ?_
  refine kC (fun k_ e_ L_ => ∃ j : Nat, (j ≤ p.t.marks.length) ∧ (∀ i, i < j → (0 ≤ p.t.marks.getD i 0 ∧ p.t.marks.getD i 0 ≤ ((p.t.calls.length : Nat) : Int)) ∧ (0 < i → p.t.marks.getD (i - 1) 0 ≤ p.t.marks.getD i 0)) ∧ e_ 1 = .pointer (some ⟨b_6, 0, none⟩) ∧ e_ 3 = nv j ∧ L_ = [bk b_6 31 (xc p)] ∧ k_ = p.t.marks.length - j) _ ⟨0, by omega, (fun i hi => absurd hi (Nat.not_lt_zero i)), rfl, rfl, rfl, rfl⟩ ?_
  rintro _ e_7 _ ⟨j, hj, hN, he_8, he_9, rfl, rfl⟩
  refine jC <| jC <| jE <| jA (jF (v := nv j) he_9) <| jA (jJ fo31_7 he_8) <| jK (jV 0 (v := .slice p.x.a4 p.t.marks.length p.x.c4) rfl rfl gS rfl) <| jA (jp gB rfl) <| jA (jo rfl rfl) <| jD <| jB ?_
  by_cases h_10 : ((j : Nat) : Int) < ((p.t.marks.length : Nat) : Int)
  · have hlt : j < p.t.marks.length := by omega
    refine jO (cB (dT h_10)) <| jU <| jB <| jC <| jg <| jC <| jr [bk b_6 31 (xc p)] 1000 mixed (by simp) <| jI 0 rfl (jJ fo31_7 he_8) <| jh 1 rfl (jV 0 (v := .slice p.x.a4 p.t.marks.length p.x.c4) rfl rfl gS rfl) <| jI 2 rfl (jF (v := nv j) he_9) ?_
    obtain ⟨hr_11, hr_11b, -⟩ := sees_some hs_5 (by omega)
    refine jI 3 rfl (jl (i := j) gB kt hr_11 hr_11b rfl rfl (by omega)) <| jh 4 rfl (kK (v := iv (p.t.marks.getD j 0)) hs_5 nM rfl kp (atI (by omega))) <| jI 5 rfl (jJ fo31_4 he_8) <| jh 6 rfl (jV 0 (v := .slice p.x.a0 p.t.calls.length p.x.c0) rfl rfl gb rfl) <| jI 7 rfl (jp gD rfl) <| jQ (i := 8) ?_
    refine jY rfl rfl (jM [] Tryz.call40 rfl (Y_l01In (p.t.marks.getD j 0) 0 ((p.t.calls.length : Nat) : Int)) rfl (fun _ _ => trivial)) ?_
    rintro _ _ ⟨_, ⟨rfl, rfl⟩, rfl⟩
    refine ⟨(by simp), ?_⟩
    refine jI 9 rfl (kP rfl) <| jI 10 rfl (jF (v := .bool (!(within 0 (p.t.marks.getD j 0) ((p.t.calls.length : Nat) : Int)))) rfl) ?_
    rcases Bool.eq_false_or_eq_true (within 0 (p.t.marks.getD j 0) ((p.t.calls.length : Nat) : Int)) with h_12 | h_12
    · have hwi := within_true h_12
      refine kL 11 rfl (by kernel_rfl) (NP.th (NP.bl (NP.th (NP.th (NP.bl (NP.th NP.body)))))) (by kernel_rfl) (by kernel_rfl) rfl rfl rfl (cB (cN h_12)) (jF (v := nv j) he_9) <| kL 12 rfl (by kernel_rfl) (NP.th (NP.bl (NP.th (NP.th (NP.bl (NP.th NP.body)))))) (by kernel_rfl) (by kernel_rfl) rfl rfl rfl (cB (cN h_12)) (ke rfl rfl) <| kL 13 rfl (by kernel_rfl) (NP.th (NP.bl (NP.th (NP.th (NP.bl (NP.th NP.body)))))) (by kernel_rfl) (by kernel_rfl) rfl rfl rfl (cB (cN h_12)) (jF (v := .bool (decide (0 < ((j : Nat) : Int)))) rfl) ?_
      by_cases h_13 : 0 < ((j : Nat) : Int)
      · refine kL 14 rfl (by kernel_rfl) (NP.th (NP.bl (NP.th (NP.th (NP.bl (NP.th NP.body)))))) (by kernel_rfl) (by kernel_rfl) rfl rfl rfl (cB (dT h_13)) (jJ fo31_7 he_8) <| kf 15 rfl (by kernel_rfl) (NP.th (NP.bl (NP.th (NP.th (NP.bl (NP.th NP.body)))))) (by kernel_rfl) (by kernel_rfl) (by kernel_rfl) rfl rfl rfl (cB (dT h_13)) (jV 0 (v := .slice p.x.a4 p.t.marks.length p.x.c4) rfl rfl gS rfl) <| kL 16 rfl (by kernel_rfl) (NP.th (NP.bl (NP.th (NP.th (NP.bl (NP.th NP.body)))))) (by kernel_rfl) (by kernel_rfl) rfl rfl rfl (cB (dT h_13)) (jF (v := nv j) he_9) <| kL 17 rfl (by kernel_rfl) (NP.th (NP.bl (NP.th (NP.th (NP.bl (NP.th NP.body)))))) (by kernel_rfl) (by kernel_rfl) rfl rfl rfl (cB (dT h_13)) (kW (c := ((j - 1 : Nat) : Int)) rfl rfl (wr (by omega))) <| kL 18 rfl (by kernel_rfl) (NP.th (NP.bl (NP.th (NP.th (NP.bl (NP.th NP.body)))))) (by kernel_rfl) (by kernel_rfl) rfl rfl rfl (cB (dT h_13)) (jl (i := (j - 1)) gB kt hr_11 hr_11b rfl rfl (by omega)) <| kf 19 rfl (by kernel_rfl) (NP.th (NP.bl (NP.th (NP.th (NP.bl (NP.th NP.body)))))) (by kernel_rfl) (by kernel_rfl) (by kernel_rfl) rfl rfl rfl (cB (dT h_13)) (kK (v := iv (p.t.marks.getD (j - 1) 0)) hs_5 nM rfl kp (atI (by omega))) <| kL 20 rfl (by kernel_rfl) (NP.th (NP.bl (NP.th (NP.th (NP.bl (NP.th NP.body)))))) (by kernel_rfl) (by kernel_rfl) rfl rfl rfl (cB (dT h_13)) (jJ fo31_7 he_8) <| kf 21 rfl (by kernel_rfl) (NP.th (NP.bl (NP.th (NP.th (NP.bl (NP.th NP.body)))))) (by kernel_rfl) (by kernel_rfl) (by kernel_rfl) rfl rfl rfl (cB (dT h_13)) (jV 0 (v := .slice p.x.a4 p.t.marks.length p.x.c4) rfl rfl gS rfl) <| kL 22 rfl (by kernel_rfl) (NP.th (NP.bl (NP.th (NP.th (NP.bl (NP.th NP.body)))))) (by kernel_rfl) (by kernel_rfl) rfl rfl rfl (cB (dT h_13)) (jF (v := nv j) he_9) <| kL 23 rfl (by kernel_rfl) (NP.th (NP.bl (NP.th (NP.th (NP.bl (NP.th NP.body)))))) (by kernel_rfl) (by kernel_rfl) rfl rfl rfl (cB (dT h_13)) (jl (i := j) gB kt hr_11 hr_11b rfl rfl (by omega)) ?_
        refine kf 24 rfl (by kernel_rfl) (NP.th (NP.bl (NP.th (NP.th (NP.bl (NP.th NP.body)))))) (by kernel_rfl) (by kernel_rfl) (by kernel_rfl) rfl rfl rfl (cB (dT h_13)) (kK (v := iv (p.t.marks.getD j 0)) hs_5 nM rfl kp (atI (by omega))) <| kL 25 rfl (by kernel_rfl) (NP.th (NP.bl (NP.th (NP.th (NP.bl (NP.th NP.body)))))) (by kernel_rfl) (by kernel_rfl) rfl rfl rfl (cB (dT h_13)) (ke rfl rfl) <| kL 26 rfl (by kernel_rfl) (NP.th (NP.bl (NP.th (NP.th (NP.bl (NP.th NP.body)))))) (by kernel_rfl) (by kernel_rfl) rfl rfl rfl (cB (cN h_12)) (kG (v := .bool (decide ((p.t.marks.getD j 0) < (p.t.marks.getD (j - 1) 0)))) (cB (dT h_13)) rfl) <| jI 27 rfl (jv (v := .bool (decide ((p.t.marks.getD j 0) < (p.t.marks.getD (j - 1) 0)))) (cB (cN h_12)) rfl) <| kI (by kernel_rfl) <| jB ?_
        by_cases h_14 : (p.t.marks.getD j 0) < (p.t.marks.getD (j - 1) 0)
        · refine jO (cB (dT h_14)) <| jC <| jE <| jA (jG (v := .bool false) rfl) <| jD <| jB <| jL <| jq <| jW <| jW ?_
          refine jq <| jW <| jR (.inl rfl) rfl (jN (v := .bool false) rfl) (List.nil_sublist _) ?_
          exact ⟨false, ⟨fun h_ => (by cases h_), fun h_ => by have h1_ := h_.2.2 j (by omega); have h2_ := h_.2.1 (j - 1); first | omega | (have h3_ := h2_ (by omega); rw [Nat.sub_add_cancel (by omega)] at h3_; omega)⟩, rfl, rfl⟩
        refine jP (cB (dF h_14)) <| jU <| jk <| jB <| jE <| jA (jF (v := nv j) he_9) <| jA (ji (c := ((j + 1 : Nat) : Int)) rfl rfl (wr (by omega))) <| jA (jG (v := iv ((j + 1 : Nat) : Int)) rfl) <| jD ?_
        refine ju (p.t.marks.length - (j + 1)) (by omega) ⟨j + 1, by omega, (fun i hi => if h : i = j then by subst h; exact ⟨by omega, fun _ => by omega⟩ else hN i (by omega)), he_8, rfl, rfl, rfl⟩
      refine kE 14 (b := false) rfl (by kernel_rfl) (NP.th (NP.bl (NP.th (NP.th (NP.bl (NP.th NP.body)))))) (by kernel_rfl) (by kernel_rfl) rfl rfl rfl (cB (dF h_13)) <| kE 15 (b := false) rfl (by kernel_rfl) (NP.th (NP.bl (NP.th (NP.th (NP.bl (NP.th NP.body)))))) (by kernel_rfl) (by kernel_rfl) rfl rfl rfl (cB (dF h_13)) <| kE 16 (b := false) rfl (by kernel_rfl) (NP.th (NP.bl (NP.th (NP.th (NP.bl (NP.th NP.body)))))) (by kernel_rfl) (by kernel_rfl) rfl rfl rfl (cB (dF h_13)) <| kE 17 (b := false) rfl (by kernel_rfl) (NP.th (NP.bl (NP.th (NP.th (NP.bl (NP.th NP.body)))))) (by kernel_rfl) (by kernel_rfl) rfl rfl rfl (cB (dF h_13)) <| kE 18 (b := false) rfl (by kernel_rfl) (NP.th (NP.bl (NP.th (NP.th (NP.bl (NP.th NP.body)))))) (by kernel_rfl) (by kernel_rfl) rfl rfl rfl (cB (dF h_13)) <| kE 19 (b := false) rfl (by kernel_rfl) (NP.th (NP.bl (NP.th (NP.th (NP.bl (NP.th NP.body)))))) (by kernel_rfl) (by kernel_rfl) rfl rfl rfl (cB (dF h_13)) <| kE 20 (b := false) rfl (by kernel_rfl) (NP.th (NP.bl (NP.th (NP.th (NP.bl (NP.th NP.body)))))) (by kernel_rfl) (by kernel_rfl) rfl rfl rfl (cB (dF h_13)) <| kE 21 (b := false) rfl (by kernel_rfl) (NP.th (NP.bl (NP.th (NP.th (NP.bl (NP.th NP.body)))))) (by kernel_rfl) (by kernel_rfl) rfl rfl rfl (cB (dF h_13)) <| kE 22 (b := false) rfl (by kernel_rfl) (NP.th (NP.bl (NP.th (NP.th (NP.bl (NP.th NP.body)))))) (by kernel_rfl) (by kernel_rfl) rfl rfl rfl (cB (dF h_13)) <| kE 23 (b := false) rfl (by kernel_rfl) (NP.th (NP.bl (NP.th (NP.th (NP.bl (NP.th NP.body)))))) (by kernel_rfl) (by kernel_rfl) rfl rfl rfl (cB (dF h_13)) ?_
      refine kE 24 (b := false) rfl (by kernel_rfl) (NP.th (NP.bl (NP.th (NP.th (NP.bl (NP.th NP.body)))))) (by kernel_rfl) (by kernel_rfl) rfl rfl rfl (cB (dF h_13)) <| kE 25 (b := false) rfl (by kernel_rfl) (NP.th (NP.bl (NP.th (NP.th (NP.bl (NP.th NP.body)))))) (by kernel_rfl) (by kernel_rfl) rfl rfl rfl (cB (dF h_13)) <| kL 26 rfl (by kernel_rfl) (NP.th (NP.bl (NP.th (NP.th (NP.bl (NP.th NP.body)))))) (by kernel_rfl) (by kernel_rfl) rfl rfl rfl (cB (cN h_12)) (jv (v := .bool false) (cB (dF h_13)) rfl) <| jI 27 rfl (jv (v := .bool false) (cB (cN h_12)) rfl) <| kI (by kernel_rfl) <| jB <| jP (cB rfl) <| jU <| jk <| jB ?_
      refine jE <| jA (jF (v := nv j) he_9) <| jA (ji (c := ((j + 1 : Nat) : Int)) rfl rfl (wr (by omega))) <| jA (jG (v := iv ((j + 1 : Nat) : Int)) rfl) <| jD ?_
      refine ju (p.t.marks.length - (j + 1)) (by omega) ⟨j + 1, by omega, (fun i hi => if h : i = j then by subst h; exact ⟨by omega, fun _ => by omega⟩ else hN i (by omega)), he_8, rfl, rfl, rfl⟩
    have hwi := within_false h_12
    refine kE 11 (b := true) rfl (by kernel_rfl) (NP.th (NP.bl (NP.th (NP.th (NP.bl (NP.th NP.body)))))) (by kernel_rfl) (by kernel_rfl) rfl rfl rfl (cB (cN h_12)) <| kE 12 (b := true) rfl (by kernel_rfl) (NP.th (NP.bl (NP.th (NP.th (NP.bl (NP.th NP.body)))))) (by kernel_rfl) (by kernel_rfl) rfl rfl rfl (cB (cN h_12)) <| kE 13 (b := true) rfl (by kernel_rfl) (NP.th (NP.bl (NP.th (NP.th (NP.bl (NP.th NP.body)))))) (by kernel_rfl) (by kernel_rfl) rfl rfl rfl (cB (cN h_12)) <| kQ 14 rfl (by kernel_rfl) (NP.th (NP.bl (NP.th (NP.th (NP.bl (NP.th NP.body)))))) (by kernel_rfl) (by kernel_rfl) rfl rfl rfl rfl <| kQ 15 rfl (by kernel_rfl) (NP.th (NP.bl (NP.th (NP.th (NP.bl (NP.th NP.body)))))) (by kernel_rfl) (by kernel_rfl) rfl rfl rfl rfl <| kQ 16 rfl (by kernel_rfl) (NP.th (NP.bl (NP.th (NP.th (NP.bl (NP.th NP.body)))))) (by kernel_rfl) (by kernel_rfl) rfl rfl rfl rfl <| kQ 17 rfl (by kernel_rfl) (NP.th (NP.bl (NP.th (NP.th (NP.bl (NP.th NP.body)))))) (by kernel_rfl) (by kernel_rfl) rfl rfl rfl rfl <| kQ 18 rfl (by kernel_rfl) (NP.th (NP.bl (NP.th (NP.th (NP.bl (NP.th NP.body)))))) (by kernel_rfl) (by kernel_rfl) rfl rfl rfl rfl <| kQ 19 rfl (by kernel_rfl) (NP.th (NP.bl (NP.th (NP.th (NP.bl (NP.th NP.body)))))) (by kernel_rfl) (by kernel_rfl) rfl rfl rfl rfl <| kQ 20 rfl (by kernel_rfl) (NP.th (NP.bl (NP.th (NP.th (NP.bl (NP.th NP.body)))))) (by kernel_rfl) (by kernel_rfl) rfl rfl rfl rfl ?_
    refine kQ 21 rfl (by kernel_rfl) (NP.th (NP.bl (NP.th (NP.th (NP.bl (NP.th NP.body)))))) (by kernel_rfl) (by kernel_rfl) rfl rfl rfl rfl <| kQ 22 rfl (by kernel_rfl) (NP.th (NP.bl (NP.th (NP.th (NP.bl (NP.th NP.body)))))) (by kernel_rfl) (by kernel_rfl) rfl rfl rfl rfl <| kQ 23 rfl (by kernel_rfl) (NP.th (NP.bl (NP.th (NP.th (NP.bl (NP.th NP.body)))))) (by kernel_rfl) (by kernel_rfl) rfl rfl rfl rfl <| kQ 24 rfl (by kernel_rfl) (NP.th (NP.bl (NP.th (NP.th (NP.bl (NP.th NP.body)))))) (by kernel_rfl) (by kernel_rfl) rfl rfl rfl rfl <| kQ 25 rfl (by kernel_rfl) (NP.th (NP.bl (NP.th (NP.th (NP.bl (NP.th NP.body)))))) (by kernel_rfl) (by kernel_rfl) rfl rfl rfl rfl <| kE 26 (b := true) rfl (by kernel_rfl) (NP.th (NP.bl (NP.th (NP.th (NP.bl (NP.th NP.body)))))) (by kernel_rfl) (by kernel_rfl) rfl rfl rfl (cB (cN h_12)) <| jI 27 rfl (kG (v := .bool true) (cB (cN h_12)) rfl) <| kI (by kernel_rfl) <| jB <| jO (cB rfl) ?_
    refine jC <| jE <| jA (jG (v := .bool false) rfl) <| jD <| jB <| jL <| jq <| jW <| jW <| jq ?_
    refine jW <| jR (.inl rfl) rfl (jN (v := .bool false) rfl) (List.nil_sublist _) ?_
    exact ⟨false, ⟨fun h_ => (by cases h_), fun h_ => by have h1_ := h_.2.2 j (by omega); have h2_ := h_.2.1 (j - 1); first | omega | (have h3_ := h2_ (by omega); rw [Nat.sub_add_cancel (by omega)] at h3_; omega)⟩, rfl, rfl⟩
  refine jP (cB (dF h_10)) <| jz <| jj <| jj <| kA <| jB <| jC <| jE <| jA (jJ fo31_7 he_8) <| jK (jV 0 (v := .slice p.x.a4 p.t.marks.length p.x.c4) rfl rfl gS rfl) ?_
  refine jA (jp gB rfl) <| jA (PO.leq rfl rfl) <| jA (jG (v := .bool (decide (((p.t.marks.length : Nat) : Int) ≤ 4))) rfl) <| jD <| jB <| jL <| jR (.inl rfl) rfl (jN (v := .bool (decide (((p.t.marks.length : Nat) : Int) ≤ 4))) rfl) (List.nil_sublist _) ?_
  exact ⟨decide (((p.t.marks.length : Nat) : Int) ≤ 4), ⟨fun h_ => ⟨of_decide_eq_true h_, fun i hi => by have h2_ := (hN (i + 1) (by omega)).2 (by omega); rwa [Nat.add_sub_cancel] at h2_, fun i hi => (hN i (by omega)).1⟩, fun h_ => dT h_.1⟩, rfl, rfl⟩

end Go.Proofs.YtghfijncihbojaaGreat

set_option linter.unusedSimpArgs false
set_option linter.unusedVariables false
set_option linter.unnecessarySimpa false
namespace Go.Proofs.YtghfijncihbojaaGreat
open Go Go.RowKit
/-- What is told of a drawn transaction: at most i calls, j marks. -/
structure tInv (i j : Nat) (t : TD) : Prop where
  cs : ∀ c ∈ t.calls, c.ok 1048576
  n : t.calls.length ≤ i
  pr : 0 ≤ t.proc ∧ t.proc ≤ 9
  a : t.ans.length ≤ i
  r : t.rd.length ≤ i * 20000000
  w : t.wr.length ≤ i * 20000000
  m : t.marks.length ≤ j
theorem tInv.new {a b c : Int} (h : 0 ≤ c ∧ c ≤ 9) : tInv 0 0 (TD.new a b c) := ⟨(fun _ h => by cases h), Nat.zero_le _, h, Nat.zero_le _, Nat.zero_le _, Nat.zero_le _, Nat.zero_le _⟩
theorem tInv.mono {i j i' j' : Nat} {t : TD} (h : tInv i j t) (hi : i ≤ i') (hj : j ≤ j') : tInv i' j' t := ⟨h.cs, Nat.le_trans h.n hi, h.pr, Nat.le_trans h.a hi, Nat.le_trans h.r (Nat.mul_le_mul_right _ hi), Nat.le_trans h.w (Nat.mul_le_mul_right _ hi), Nat.le_trans h.m hj⟩
theorem tInv.lim {i j : Nat} {t : TD} (h : tInv i j t) (hi : i ≤ 20) (hj : j ≤ 100) : t.lim 500000000 := ⟨by have := h.n; omega, by have := h.a; omega, by have := h.r; omega, by have := h.w; omega, by have := h.m; omega⟩
theorem tInv.okT {i j : Nat} {t : TD} (h : tInv i j t) (hi : i ≤ 20) : okT t := ⟨h.cs, by have := h.n; omega, by have := h.pr; omega⟩
theorem tInv.ask {i j : Nat} {t z : TD} {v : List Cell} {c : CL} {a : AN} (h : tInv i j t) (hc : c.ok 1048576) (e : TD.askV v t c = (z, a)) (hb : z.rd.length ≤ t.rd.length + 20000000 ∧ z.wr.length ≤ t.wr.length + 20000000) : tInv (i + 1) j z := by
  have hn := h.n
  have ha := h.a
  have hr := h.r
  have hw := h.w
  by_cases hs : t.state = 1
  · by_cases h12 : 12 ≤ t.calls.length
    · rw [askV_full hs h12] at e
      cases e
      exact h.mono (by omega) (Nat.le_refl _)
    · rw [askV_on hs h12] at e
      simp only [Prod.mk.injEq] at e
      obtain ⟨rfl, rfl⟩ := e
      refine ⟨fun q hq => ?_, ?_, h.pr, ?_, by dsimp only at hb ⊢; omega, by dsimp only at hb ⊢; omega, h.m⟩
      · rcases List.mem_append.1 hq with hq | hq
        · exact h.cs q hq
        · rw [List.mem_singleton] at hq; rw [hq]; exact hc
      · simp only [List.length_append, List.length_cons, List.length_nil]; omega
      · simp only [List.length_append, List.length_cons, List.length_nil]; omega
  · rw [askV_off hs] at e
    cases e
    exact h.mono (by omega) (Nat.le_refl _)
theorem tInv.mark {i j : Nat} {t z : TD} (h : tInv i j t) (e : z = t.mark.1) : tInv i (j + 1) z := by
  unfold TD.mark at e
  have hm := h.m
  split at e
  · subst e
    exact ⟨h.cs, h.n, h.pr, h.a, h.r, h.w, by simp only [List.length_append, List.length_cons, List.length_nil]; omega⟩
  · subst e
    exact h.mono (Nat.le_refl _) (by omega)
theorem grow6 {i : Nat} (h : i ≤ 4) : grow 10935 i ≤ 2800000 := Nat.le_trans (grow_le 10935 h) (by decide)
theorem growT6 {i : Nat} (h : i ≤ 4) : growT 10935 0 i ≤ 20000000 := Nat.le_trans (growT_le 10935 0 h) (by decide)
attribute [local irreducible] JL JC JQ JO LO PO JA JX Ct

theorem D_span03 (qb : Nat) (qa : Option Addr) (qc : Nat) (ql : Str) (qp : Nat) (qs : Int) (hql : ql.length ≤ 1048576) (hqp : qp ≤ ql.length)  :
    Ct Tryz.prog 258 [.pointer (some ⟨qb, 0, none⟩)] [cb qb qa qc ql qp qs] (fun w => seesC w qa qc ql [cb qb qa qc ql qp qs]) (fun v A' => ∃ qp' qs' r0, qp' ≤ ql.length ∧ (r0.length ≤ 64) ∧ v = str r0 ∧ A' = [cb qb qa qc ql qp' qs']) := by
  refine Ct.intro Tryz.func258 rfl Tryz.ntmps258 (lb rfl) fun w0 hpre => ?_
  have hs_qa : Sees w0 _ _ _ _ := hpre.1
  refine jC <| jE <| jA (jG (v := str []) rfl) <| jD <| jB <| jC <| jE <| jA (jF (v := .pointer (some ⟨qb, 0, none⟩)) rfl) ?_
  refine jH rfl (kJ (ps := [(0, str [97]), (1, str [98]), (2, str [110, 47, 120]), (3, str [110, 47, 121]), (4, str [110, 47, 121, 121]), (5, str [110, 47, 42]), (6, str [110, 47, 121, 42]), (7, str [105, 47, 49, 47, 42]), (8, str [105, 47, 49, 47, 115]), (9, str [105, 47, 42]), (10, str [42]), (11, str [105, 47, 49, 50, 47, 115])]) (cur := #[str [97], str [98], str [110, 47, 120], str [110, 47, 121], str [110, 47, 121, 121], str [110, 47, 42], str [110, 47, 121, 42], str [105, 47, 49, 47, 42], str [105, 47, 49, 47, 115], str [105, 47, 42], str [42], str [105, 47, 49, 50, 47, 115]]) ks kw gQ rfl (by kernel_rfl) (by decide) (by decide)) ?_
  rintro _ _ ⟨a_1, rfl, rfl⟩
  refine jH rfl (jM [1, 0] Tryz.call206 rfl (D_pick qb qa qc ql qp qs a_1 12 ([[97], [98], [110, 47, 120], [110, 47, 121], [110, 47, 121, 121], [110, 47, 42], [110, 47, 121, 42], [105, 47, 49, 47, 42], [105, 47, 49, 47, 115], [105, 47, 42], [42], [105, 47, 49, 50, 47, 115]] : List Str) (by omega) (by omega) (by simp) (by simp)) rfl (fun w hw => ⟨hw.seeOut_ hs_qa (hpre.2), hw.apart hs_qa (hpre.2) (by simp)⟩)) ?_
  rintro _ _ ⟨_, ⟨qp_2, qs_3, u_5, fq_4, f_6, rfl, rfl⟩, rfl⟩
  have hlu_5 : u_5.length ≤ 64 := by have hx_ := f_6; simp only [List.mem_cons, List.not_mem_nil, or_false] at hx_; rcases hx_ with hx_ | hx_ | hx_ | hx_ | hx_ | hx_ | hx_ | hx_ | hx_ | hx_ | hx_ | hx_ <;> first | (rw [hx_]; decide) | (rw [hx_]; omega)
  refine jA (jG (v := str u_5) rfl) <| jD <| jB <| jL <| jR (.inl rfl) rfl (jN (v := str u_5) rfl) (List.Sublist.refl _) ?_
  exact ⟨qp_2, qs_3, u_5, (by omega), (by first | omega | (simp only [LE]; omega)), rfl, rfl⟩

theorem D_list03 (qb : Nat) (qa : Option Addr) (qc : Nat) (ql : Str) (qp : Nat) (qs : Int) (hql : ql.length ≤ 1048576) (hqp : qp ≤ ql.length)  :
    Ct Tryz.prog 246 [.pointer (some ⟨qb, 0, none⟩)] [cb qb qa qc ql qp qs] (fun w => seesC w qa qc ql [cb qb qa qc ql qp qs]) (fun v A' => ∃ qp' qs' r0a r0c r0, qp' ≤ ql.length ∧ (r0.length ≤ 4) ∧ v = .slice r0a r0.length r0c ∧ A' = cb qb qa qc ql qp' qs' :: [rS r0a r0c r0]) := by
  refine Ct.intro Tryz.func246 rfl Tryz.ntmps246 (lb rfl) fun w0 hpre => ?_
  have hs_qa : Sees w0 _ _ _ _ := hpre.1
  refine jC <| jE <| jA (jG (v := .slice none 0 0) rfl) <| jD <| jB <| jC <| jE ?_
  refine jH rfl (kJ (ps := []) (cur := #[]) ks kw gQ rfl (by kernel_rfl) (by decide) (by decide)) ?_
  rintro _ _ ⟨a_1, rfl, rfl⟩
  refine jA (jG (v := .slice a_1 0 0) rfl) <| jD <| jB <| jC <| jC <| jE <| jA (jG (v := iv 0) rfl) <| jD <| jB <| jg ?_
  refine kC (fun k_ e_ L_ => ∃ i_ : Nat, ∃ p_q : Nat, ∃ s_q : Int, ∃ o_a : Option Addr, ∃ o_c : Nat, ∃ o_ : List Str, (p_q ≤ ql.length) ∧ (i_ ≤ 4) ∧ (o_.length ≤ i_) ∧ e_ 0 = .pointer (some ⟨qb, 0, none⟩) ∧ e_ 2 = .slice none 0 0 ∧ e_ 3 = .slice o_a o_.length o_c ∧ e_ 4 = nv i_ ∧ L_ = [rS o_a o_c o_, cb qb qa qc ql p_q s_q] ∧ k_ = 5 - i_) _ ⟨0, qp, qs, a_1, 0, ([] : List Str), (by omega), (by omega), (Nat.zero_le _), rfl, rfl, rfl, rfl, rfl, rfl⟩ ?_
  rintro _ e_2 _ ⟨i_, p_q, s_q, o_a, o_c, o_, hpq_, hi, ho, he_3, he_4, he_5, he_6, rfl, rfl⟩
  refine jC <| jC <| jE <| jA (jF (v := nv i_) he_6) <| jA (jF (v := .pointer (some ⟨qb, 0, none⟩)) he_3) ?_
  refine jH rfl (jM [1] Tryz.call33 rfl (D_below qb qa qc ql p_q s_q (by omega) (by omega) 4 (by omega)) rfl (fun w hw => ⟨hw.seeOut_ hs_qa (hpre.2), hw.apart hs_qa (hpre.2) (by simp)⟩)) ?_
  rintro _ _ ⟨_, ⟨qp_7, qs_8, n_10, fq_9, f_11, rfl, rfl⟩, rfl⟩
  refine jA (jo rfl rfl) <| jD <| jB ?_
  by_cases h_13 : ((i_ : Nat) : Int) < ((n_10 : Nat) : Int)
  · refine jO (cB (dT h_13)) <| jU <| jB <| jC <| jg <| jE <| jA (jF (v := .slice o_a o_.length o_c) he_5) <| jA (jF (v := .pointer (some ⟨qb, 0, none⟩)) he_3) ?_
    refine jH rfl (jM [0] Tryz.call258 rfl (D_span03 qb qa qc ql qp_7 qs_8 (by omega) (by omega)) rfl (fun w hw => ⟨hw.seeOut_ hs_qa (hpre.2), hw.apart hs_qa (hpre.2) (by simp)⟩)) ?_
    rintro _ _ ⟨_, ⟨qp_14, qs_15, u_17, fq_16, f_18, rfl, rfl⟩, rfl⟩
    refine jH rfl (jM [] Tryz.call97 rfl (C_sAddSpan o_a o_c o_ u_17 (by omega)) rfl (fun w hw => hw.see (i := 1) rfl)) ?_
    rintro _ _ ⟨_, ⟨a_20, c_21, rfl, rfl⟩, rfl⟩
    refine jA (jG (v := .slice a_20 ((addSpan o_ u_17).length) c_21) rfl) <| jD <| jk <| jB <| jE <| jA (jF (v := nv i_) he_6) <| jA (ji (c := ((i_ + 1 : Nat) : Int)) rfl rfl (wr (by omega))) <| jA (jG (v := iv ((i_ + 1 : Nat) : Int)) rfl) <| jD <| kH [0, 0] (A := [rS a_20 c_21 (addSpan o_ u_17), cb qb qa qc ql qp_14 qs_15]) rfl ?_
    refine ju (5 - (i_ + 1)) (by omega) ⟨(i_ + 1), qp_14, qs_15, a_20, c_21, (addSpan o_ u_17), (by omega), (by omega), (by have h_ := addSpan_len o_ u_17; omega), he_3, he_4, rfl, rfl, rfl, rfl⟩
  refine jP (cB (dF h_13)) <| jz <| jj <| jj <| kA <| jB <| jC <| jE <| jA (jF (v := .slice o_a o_.length o_c) he_5) <| jA (jG (v := .slice o_a o_.length o_c) rfl) ?_
  refine jD <| jB <| jL <| jR (.inl rfl) rfl (jN (v := .slice o_a o_.length o_c) rfl) (List.Sublist.refl _) ?_
  exact ⟨qp_7, qs_8, o_a, o_c, o_, (by omega), (by omega), rfl, rfl⟩

theorem D_touch03 (qb : Nat) (qa : Option Addr) (qc : Nat) (ql : Str) (qp : Nat) (qs : Int) (hql : ql.length ≤ 1048576) (hqp : qp ≤ ql.length)  :
    Ct Tryz.prog 204 [.pointer (some ⟨qb, 0, none⟩)] [cb qb qa qc ql qp qs] (fun w => seesC w qa qc ql [cb qb qa qc ql qp qs]) (fun v A' => ∃ qp' qs' r0ra r0rc r0r r0wa r0wc r0w, qp' ≤ ql.length ∧ (r0r.length ≤ 4 ∧ r0w.length ≤ 4) ∧ v = .agg #[.slice r0ra r0r.length r0rc, .slice r0wa r0w.length r0wc] ∧ A' = cb qb qa qc ql qp' qs' :: rS r0ra r0rc r0r :: [rS r0wa r0wc r0w]) := by
  refine Ct.intro Tryz.func204 rfl Tryz.ntmps204 (lb rfl) fun w0 hpre => ?_
  have hs_qa : Sees w0 _ _ _ _ := hpre.1
  refine jC <| jE ?_
  refine jH rfl (jn (z := .agg #[.slice none 0 0, .slice none 0 0]) (cs := [.slice none 0 0, .slice none 0 0]) gU rfl) ?_
  rintro _ _ ⟨b_1, rfl, rfl⟩
  refine jD <| jB <| jC <| jE <| jA (jF (v := .pointer (some ⟨qb, 0, none⟩)) rfl) ?_
  refine jH rfl (jM [1] Tryz.call246 rfl (D_list03 qb qa qc ql qp qs (by omega) (by omega)) rfl (fun w hw => ⟨hw.seeOut_ hs_qa (hpre.2), hw.apart hs_qa (hpre.2) (by simp)⟩)) ?_
  rintro _ _ ⟨_, ⟨qp_2, qs_3, l_5a, l_5c, l_5, fq_4, f_6, rfl, rfl⟩, rfl⟩
  refine jA (kY (ps := [(0, .slice l_5a l_5.length l_5c)]) (cs := [.slice l_5a l_5.length l_5c, .slice none 0 0]) rfl (by kernel_rfl)) ?_
  refine jH rfl (jn (z := .agg #[.slice none 0 0, .slice none 0 0]) (cs := [.slice none 0 0, .slice none 0 0]) gU rfl) ?_
  rintro _ _ ⟨b_8, rfl, rfl⟩
  refine jH rfl (jT 0 (vs := [.slice l_5a l_5.length l_5c, .slice none 0 0]) (cs' := [.slice l_5a l_5.length l_5c, .slice none 0 0]) rfl rfl rfl rfl kx rfl rfl (lb rfl) rfl) ?_
  rintro _ _ rfl
  refine jD <| jB <| jC <| jC <| JC.nilRow 9 1 <| jE <| jA (jG (v := iv 0) rfl) <| jD <| jB <| jg ?_
  refine kC (fun k_ e_ L_ => ∃ i_ : Nat, ∃ p_q : Nat, ∃ s_q : Int, ∃ w_a : Option Addr, ∃ w_c : Nat, ∃ w_ : List Str, (p_q ≤ ql.length) ∧ (i_ ≤ 3) ∧ (w_.length ≤ i_) ∧ e_ 0 = .pointer (some ⟨qb, 0, none⟩) ∧ e_ 2 = .pointer (some ⟨b_1, 0, none⟩) ∧ e_ 3 = .pointer (some ⟨b_8, 0, none⟩) ∧ e_ 4 = nv i_ ∧ L_ = [rS w_a w_c w_, bk b_8 28 [.slice l_5a l_5.length l_5c, .slice w_a w_.length w_c], cb qb qa qc ql p_q s_q, rS l_5a l_5c l_5, bk b_1 28 [.slice none 0 0, .slice none 0 0]] ∧ k_ = 4 - i_) _ ⟨0, qp_2, qs_3, none, 0, ([] : List Str), (by omega), (by omega), (Nat.zero_le _), rfl, rfl, rfl, rfl, rfl, rfl⟩ ?_
  rintro _ e_9 _ ⟨i_, p_q, s_q, w_a, w_c, w_, hpq_, hi, hw_, he_10, he_11, he_12, he_13, rfl, rfl⟩
  refine jC <| jC <| jE <| jA (jF (v := nv i_) he_13) <| jA (jF (v := .pointer (some ⟨qb, 0, none⟩)) he_10) ?_
  refine jH rfl (jM [2] Tryz.call33 rfl (D_below qb qa qc ql p_q s_q (by omega) (by omega) 3 (by omega)) rfl (fun w hw => ⟨hw.seeOut_ hs_qa (hpre.2), hw.apart hs_qa (hpre.2) (by simp)⟩)) ?_
  rintro _ _ ⟨_, ⟨qp_14, qs_15, n_17, fq_16, f_18, rfl, rfl⟩, rfl⟩
  refine jA (jo rfl rfl) <| jD <| jB ?_
  by_cases h_20 : ((i_ : Nat) : Int) < ((n_17 : Nat) : Int)
  · refine jO (cB (dT h_20)) <| jU <| jB <| jC <| jg <| jr [bk b_8 28 [.slice l_5a l_5.length l_5c, .slice w_a w_.length w_c]] 4 mixed (by simp) <| jI 0 rfl (jJ fo28_1 he_12) <| jh 1 rfl (jV 0 (v := .slice w_a w_.length w_c) rfl rfl gF rfl) <| jI 2 rfl (jF (v := .pointer (some ⟨qb, 0, none⟩)) he_10) <| jQ (i := 3) ?_
    refine jY rfl rfl (jM [0] Tryz.call247 rfl (D_key qb qa qc ql qp_14 qs_15 (by omega) (by omega)) rfl (fun w hw => ⟨hw.seeOut_ hs_qa (hpre.2), hw.apart hs_qa (hpre.2) (by simp)⟩)) ?_
    rintro _ _ ⟨_, ⟨qp_27, qs_28, u_30, fq_29, f_31, rfl, rfl⟩, rfl⟩
    refine ⟨(by simp), ?_⟩
    refine jQ (i := 4) ?_
    refine kF rfl (jM [] Tryz.call97 rfl (C_sAddSpan w_a w_c w_ u_30 (by omega)) rfl (fun w hw => hw.see (i := 1) rfl)) ?_
    rintro _ _ ⟨_, ⟨a_35, c_36, rfl, rfl⟩, rfl⟩
    refine jI 5 rfl (jJ fo28_1 he_12) <| jQ (i := 6) ?_
    refine jx rfl (jT 3 (vs := [.slice a_35 ((addSpan w_ u_30).length) c_36]) (cs' := [.slice l_5a l_5.length l_5c, .slice a_35 ((addSpan w_ u_30).length) c_36]) rfl rfl rfl rfl gt rfl rfl (lb rfl) rfl) ?_
    rintro _ _ rfl
    refine jk <| jB <| jE <| jA (jF (v := nv i_) he_13) <| jA (ji (c := ((i_ + 1 : Nat) : Int)) rfl rfl (wr (by omega))) <| jA (jG (v := iv ((i_ + 1 : Nat) : Int)) rfl) <| jD <| kH [0, 2, 0, 1, 1] (A := [rS a_35 c_36 (addSpan w_ u_30), bk b_8 28 [.slice l_5a l_5.length l_5c, .slice a_35 ((addSpan w_ u_30).length) c_36], cb qb qa qc ql qp_27 qs_28, rS l_5a l_5c l_5, bk b_1 28 [.slice none 0 0, .slice none 0 0]]) rfl ?_
    refine ju (4 - (i_ + 1)) (by omega) ⟨(i_ + 1), qp_27, qs_28, a_35, c_36, (addSpan w_ u_30), (by omega), (by omega), (by have h_ := addSpan_len w_ u_30; omega), he_10, he_11, he_12, rfl, rfl, rfl⟩
  refine jP (cB (dF h_20)) <| jz <| jj <| jj <| kA <| jB <| jC <| jE <| jK (jX 2 (vs := [.slice l_5a l_5.length l_5c, .slice w_a w_.length w_c]) rfl he_12 gL kx rfl rfl) ?_
  refine jH rfl (jT 4 (vs := [.slice l_5a l_5.length l_5c, .slice w_a w_.length w_c]) (cs' := [.slice l_5a l_5.length l_5c, .slice w_a w_.length w_c]) rfl he_11 rfl rfl kx rfl rfl (lb rfl) rfl) ?_
  rintro _ _ rfl
  refine jD <| jB <| jL <| kR (pick_perm [0, 2, 0] (A := [cb qb qa qc ql qp_14 qs_15, rS l_5a l_5c l_5, rS w_a w_c w_]) (F := [bk b_8 28 [.slice l_5a l_5.length l_5c, .slice w_a w_.length w_c], bk b_1 28 [.slice l_5a l_5.length l_5c, .slice w_a w_.length w_c]]) rfl).symm <| jR (.inl rfl) rfl (je (jX 4 (vs := [.slice l_5a l_5.length l_5c, .slice w_a w_.length w_c]) rfl he_11 gL kx rfl rfl) ⟨_, he_11⟩) (tS 3 _) ?_
  exact ⟨qp_14, qs_15, l_5a, l_5c, l_5, w_a, w_c, w_, (by omega), ⟨by omega, by omega⟩, rfl, rfl⟩

set_option maxRecDepth 4000 in
set_option maxHeartbeats 1000000 in
theorem D_tx17 (qb : Nat) (qa : Option Addr) (qc : Nat) (ql : Str) (qp : Nat) (qs : Int) (hql : ql.length ≤ 1048576) (hqp : qp ≤ ql.length) (sa : Option Addr) (sc : Nat) (s : List Cell) (hO : okC' 10935 1048576 s) (ident : Int) :
    Ct Tryz.prog 203 [.pointer (some ⟨qb, 0, none⟩), .slice sa s.length sc, .int .i64 ident] [cb qb qa qc ql qp qs] (fun w => seesC w qa qc ql [cb qb qa qc ql qp qs] ∧ (Sees w (.slice sa s.length sc) 2 s.length (s.flatMap encC) ∧ ∀ b, (Value.slice sa s.length sc).ownBlock = some b → b ≠ qb)) (fun v A' => ∃ qp' qs' z, qp' ≤ ql.length ∧ tInv 4 4 z.t ∧ v = .agg #[.int .i64 z.t.id, .int .i64 z.t.age, .int .i64 z.t.proc, .int .i64 z.t.began, .slice z.x.a0 z.t.calls.length z.x.c0, .slice z.x.a1 z.t.ans.length z.x.c1, .slice z.x.a2 z.t.rd.length z.x.c2, .slice z.x.a3 z.t.wr.length z.x.c3, .slice z.x.a4 z.t.marks.length z.x.c4, .int .i64 z.t.state] ∧ A' = [cb qb qa qc ql qp' qs', .rows (rdsX z)]) := by
  refine Ct.intro Tryz.func203 rfl Tryz.ntmps203 (lb rfl) fun w0 hpre => ?_
  have hs_qa : Sees w0 _ _ _ _ := hpre.1.1
  have hs_sa : Sees w0 _ _ _ _ := hpre.2.1
  have hO1 := hO.1
  refine jC <| jE ?_
  refine jH rfl (jn (z := xz) (cs := xzc) gH rfl) ?_
  rintro _ _ ⟨b_1, rfl, rfl⟩
  refine jD <| jB <| jC <| jE <| jA (jF (v := iv ident) rfl) <| jA (jF (v := iv ident) rfl) <| jA (jF (v := .pointer (some ⟨qb, 0, none⟩)) rfl) ?_
  refine jH rfl (jM [1] Tryz.call33 rfl (D_below qb qa qc ql qp qs (by omega) (by omega) 2 (by omega)) rfl (fun w hw => ⟨hw.seeOut_ hs_qa (hpre.1.2), hw.apart hs_qa (hpre.1.2) (by simp)⟩)) ?_
  rintro _ _ ⟨_, ⟨qp_2, qs_3, n_5, fq_4, f_6, rfl, rfl⟩, rfl⟩
  refine jA (ji (c := ((1 + n_5 : Nat) : Int)) rfl rfl (wr (by omega))) ?_
  refine jH rfl (jM [] Tryz.call245 rfl (Y_sTxNew ident ident ((1 + n_5 : Nat) : Int)) rfl (fun _ _ => trivial)) ?_
  rintro _ _ ⟨_, ⟨z_8, hz_9, rfl, rfl⟩, rfl⟩
  refine jH rfl (jn (z := xz) (cs := xzc) gH rfl) ?_
  rintro _ _ ⟨b_10, rfl, rfl⟩
  refine jH rfl (jT 0 (vs := (xc z_8)) (cs' := (xc z_8)) rfl rfl rfl rfl kq rfl rfl (lb rfl) rfl) ?_
  rintro _ _ rfl
  refine jD <| jB <| jC <| jC <| jE <| jA (jG (v := iv 0) rfl) <| jD <| jB <| jg <| kC (fun k_ e_ L_ => ∃ i_ : Nat, ∃ p_q : Nat, ∃ s_q : Int, ∃ z : TX, (i_ ≤ 4) ∧ (p_q ≤ ql.length) ∧ (tInv i_ i_ z.t) ∧ e_ 0 = .pointer (some ⟨qb, 0, none⟩) ∧ e_ 1 = .slice sa s.length sc ∧ e_ 6 = .pointer (some ⟨b_1, 0, none⟩) ∧ e_ 7 = .pointer (some ⟨b_10, 0, none⟩) ∧ e_ 8 = nv i_ ∧ L_ = [bk b_10 31 (xc z), Res.rows (rdsX z), cb qb qa qc ql p_q s_q, bk b_1 31 xzc] ∧ k_ = 5 - i_) _ ⟨0, qp_2, qs_3, z_8, by omega, (by omega), (by rw [hz_9]; exact tInv.new (by omega)), rfl, rfl, rfl, rfl, rfl, rfl, rfl⟩ ?_
  rintro _ e_11 _ ⟨i_, p_q, s_q, z, hi, hpq_, hI, he_12, he_13, he_14, he_15, he_16, rfl, rfl⟩
  have hIn := hI.n
  refine jC <| jC <| jE <| jA (jF (v := nv i_) he_16) <| jA (jF (v := .pointer (some ⟨qb, 0, none⟩)) he_12) ?_
  refine jH rfl (jM [2] Tryz.call33 rfl (D_below qb qa qc ql p_q s_q (by omega) (by omega) 5 (by omega)) rfl (fun w hw => ⟨hw.seeOut_ hs_qa (hpre.1.2), hw.apart hs_qa (hpre.1.2) (by simp)⟩)) ?_
  rintro _ _ ⟨_, ⟨qp_17, qs_18, n_20, fq_19, f_21, rfl, rfl⟩, rfl⟩
  refine jA (jo rfl rfl) <| jD <| jB ?_
  by_cases h_23 : ((i_ : Nat) : Int) < ((n_20 : Nat) : Int)
  · refine jO (cB (dT h_23)) <| jU <| jB <| jC <| jg <| jC <| jr [bk b_10 31 (xc z)] 8 mixed (by simp) <| jI 0 rfl (jF (v := .slice sa s.length sc) he_13) <| jh 1 rfl (jX 0 (vs := (xc z)) rfl he_15 kz kq rfl rfl) <| jI 2 rfl (jF (v := .pointer (some ⟨qb, 0, none⟩)) he_12) ?_
    refine jQ (i := 3) ?_
    refine jY rfl rfl (jM [0] Tryz.call202 rfl (D_call13 qb qa qc ql qp_17 qs_18 (by omega) (by omega)) rfl (fun w hw => ⟨hw.seeOut_ hs_qa (hpre.1.2), hw.apart hs_qa (hpre.1.2) (by simp)⟩)) ?_
    rintro _ _ ⟨_, ⟨qp_30, qs_31, C_33, fq_32, f_34, rfl, rfl⟩, rfl⟩
    obtain ⟨f_341, f_342, f_343, f_344, f_345, f_346⟩ := id f_34
    refine ⟨(by simp), ?_⟩
    refine jQ (i := 4) ?_
    refine jY rfl rfl (jM [] Tryz.call20 rfl (Y_sTxAsk z (hI.lim (by omega) (by omega)) sa sc s 10935 hO (by omega) (hI.okT (by omega)) (fun h_ => grow6 (by omega)) (fun h_ => growT6 (by omega)) C_33 f_34) rfl (fun w hw => ⟨hw.seeOut_ hs_sa (notin_bk hpre.2.2), hw.seeRows 2 rfl⟩)) ?_
    rintro _ _ ⟨_, ⟨z_41, A_42, e_43, ha_44, hb_45, rfl, rfl⟩, rfl⟩
    refine ⟨(by simp), ?_⟩
    refine jI 5 rfl (jF (v := .tuple #[(xv z_41), .agg #[iv A_42.code, iv A_42.n, str A_42.text]]) rfl) <| jI 6 rfl (jb (v := (xv z_41)) rfl rfl) <| jI 7 rfl (jb (v := .agg #[iv A_42.code, iv A_42.n, str A_42.text]) rfl rfl) <| jQ (i := 8) ?_
    refine jx rfl (jT 2 (vs := (xc z_41)) (cs' := (xc z_41)) rfl he_15 rfl rfl kq rfl rfl (lb rfl) rfl) ?_
    rintro _ _ rfl
    refine jB <| jC ?_
    have hJ := hI.ask f_34 e_43 hb_45
    refine jE <| jA (jF (v := .pointer (some ⟨qb, 0, none⟩)) he_12) ?_
    refine jH rfl (jM [1] Tryz.call146 rfl (D_once qb qa qc ql qp_30 qs_31 (by omega) (by omega) 5 (by omega)) rfl (fun w hw => ⟨hw.seeOut_ hs_qa (hpre.1.2), hw.apart hs_qa (hpre.1.2) (by simp)⟩)) ?_
    rintro _ _ ⟨_, ⟨qp_46, qs_47, b_49, fq_48, rfl, rfl⟩, rfl⟩
    refine jD <| jB ?_
    rcases Bool.eq_false_or_eq_true (b_49) with h_51 | h_51
    · refine jO (cB h_51) <| jE <| jK (jX 2 (vs := (xc z_41)) rfl he_15 kz kq rfl rfl) ?_
      refine jH rfl (jM [] Tryz.call8 rfl (Y_specTxMark z_41 ((hJ.lim (by omega) (by omega)).mono (show 500000000 ≤ 1000000000 by decide)) ) rfl (fun w hw => hw.seeRows 1 rfl)) ?_
      rintro _ _ ⟨_, ⟨z_52, hz_53, rfl, rfl⟩, rfl⟩
      refine jA (jF (v := .tuple #[(xv z_52), iv z_41.t.mark.2]) rfl) <| jA (jb (v := (xv z_52)) rfl rfl) <| jA (jb (v := iv z_41.t.mark.2) rfl rfl) ?_
      refine jH rfl (jT 3 (vs := (xc z_52)) (cs' := (xc z_52)) rfl he_15 rfl rfl kq rfl rfl (lb rfl) rfl) ?_
      rintro _ _ rfl
      refine jD <| jk <| jB <| jE <| jA (jF (v := nv i_) he_16) <| jA (ji (c := ((i_ + 1 : Nat) : Int)) rfl rfl (wr (by omega))) <| jA (jG (v := iv ((i_ + 1 : Nat) : Int)) rfl) <| jD <| kH [3, 0, 0, 2] (A := [bk b_10 31 (xc z_52), Res.rows (rdsX z_52), cb qb qa qc ql qp_46 qs_47, bk b_1 31 xzc]) rfl ?_
      refine ju (5 - (i_ + 1)) (by omega) ⟨i_ + 1, qp_46, qs_47, z_52, by omega, (by omega), (hJ.mark hz_53), he_12, he_13, he_14, he_15, rfl, rfl, rfl⟩
    refine jP (cB h_51) <| jU <| jk <| jB <| jE <| jA (jF (v := nv i_) he_16) <| jA (ji (c := ((i_ + 1 : Nat) : Int)) rfl rfl (wr (by omega))) <| jA (jG (v := iv ((i_ + 1 : Nat) : Int)) rfl) <| jD <| kH [2, 1, 0, 1] (A := [bk b_10 31 (xc z_41), Res.rows (rdsX z_41), cb qb qa qc ql qp_46 qs_47, bk b_1 31 xzc]) rfl ?_
    refine ju (5 - (i_ + 1)) (by omega) ⟨i_ + 1, qp_46, qs_47, z_41, by omega, (by omega), (hJ.mono (Nat.le_refl _) (by omega)), he_12, he_13, he_14, he_15, rfl, rfl, rfl⟩
  refine jP (cB (dF h_23)) <| jz <| jj <| jj <| kA <| jB <| jC <| jE <| jK (jX 1 (vs := (xc z)) rfl he_15 kz kq rfl rfl) ?_
  refine jH rfl (jT 3 (vs := (xc z)) (cs' := (xc z)) rfl he_14 rfl rfl kq rfl rfl (lb rfl) rfl) ?_
  rintro _ _ rfl
  refine jD <| jB <| jL <| kR (pick_perm [0, 1] (A := [cb qb qa qc ql qp_17 qs_18, Res.rows (rdsX z)]) (F := [bk b_10 31 (xc z), bk b_1 31 (xc z)]) rfl).symm <| jR (.inl rfl) rfl (je (jX 3 (vs := (xc z)) rfl he_14 kz kq rfl rfl) ⟨_, he_14⟩) (tS 2 _) ?_
  exact ⟨qp_17, qs_18, z, by omega, hI.mono (by omega) (by omega), rfl, rfl⟩

set_option maxRecDepth 4000 in
set_option maxHeartbeats 1000000 in
theorem D_any17 (qb : Nat) (qa : Option Addr) (qc : Nat) (ql : Str) (qp : Nat) (qs : Int) (hql : ql.length ≤ 1048576) (hqp : qp ≤ ql.length) (sa : Option Addr) (sc : Nat) (s : List Cell) (hO : okC' 10935 1048576 s) :
    Ct Tryz.prog 145 [.pointer (some ⟨qb, 0, none⟩), .slice sa s.length sc] [cb qb qa qc ql qp qs] (fun w => seesC w qa qc ql [cb qb qa qc ql qp qs] ∧ (Sees w (.slice sa s.length sc) 2 s.length (s.flatMap encC) ∧ ∀ b, (Value.slice sa s.length sc).ownBlock = some b → b ≠ qb)) (fun v A' => ∃ qp' qs' z, qp' ≤ ql.length ∧ tInv 12 5 z.t ∧ v = .agg #[.int .i64 z.t.id, .int .i64 z.t.age, .int .i64 z.t.proc, .int .i64 z.t.began, .slice z.x.a0 z.t.calls.length z.x.c0, .slice z.x.a1 z.t.ans.length z.x.c1, .slice z.x.a2 z.t.rd.length z.x.c2, .slice z.x.a3 z.t.wr.length z.x.c3, .slice z.x.a4 z.t.marks.length z.x.c4, .int .i64 z.t.state] ∧ A' = [cb qb qa qc ql qp' qs', .rows (rdsX z)]) := by
  refine Ct.intro Tryz.func145 rfl Tryz.ntmps145 (lb rfl) fun w0 hpre => ?_
  have hs_qa : Sees w0 _ _ _ _ := hpre.1.1
  have hs_sa : Sees w0 _ _ _ _ := hpre.2.1
  have hO1 := hO.1
  refine jC <| jE ?_
  refine jH rfl (jn (z := xz) (cs := xzc) gH rfl) ?_
  rintro _ _ ⟨b_1, rfl, rfl⟩
  refine jD <| jB <| jC <| jE <| jA (jF (v := .pointer (some ⟨qb, 0, none⟩)) rfl) <| jA (jF (v := .slice sa s.length sc) rfl) <| jA (jF (v := .pointer (some ⟨qb, 0, none⟩)) rfl) ?_
  refine jH rfl (jM [1] Tryz.call33 rfl (D_below qb qa qc ql qp qs (by omega) (by omega) 3 (by omega)) rfl (fun w hw => ⟨hw.seeOut_ hs_qa (hpre.1.2), hw.apart hs_qa (hpre.1.2) (by simp)⟩)) ?_
  rintro _ _ ⟨_, ⟨qp_2, qs_3, n_5, fq_4, f_6, rfl, rfl⟩, rfl⟩
  refine jA (ji (c := ((1 + n_5 : Nat) : Int)) rfl rfl (wr (by omega))) ?_
  refine jH rfl (jM [0] Tryz.call203 rfl (D_tx17 qb qa qc ql qp_2 qs_3 (by omega) (by omega) sa sc s hO ((1 + n_5 : Nat) : Int)) rfl (fun w hw => ⟨⟨hw.seeOut_ hs_qa (hpre.1.2), hw.apart hs_qa (hpre.1.2) (by simp)⟩, hw.seeOut_ hs_sa (notin_bk hpre.2.2), hpre.2.2⟩)) ?_
  rintro _ _ ⟨_, ⟨qp_8, qs_9, z_11, fq_10, hd_12, rfl, rfl⟩, rfl⟩
  refine jH rfl (jn (z := xz) (cs := xzc) gH rfl) ?_
  rintro _ _ ⟨b_13, rfl, rfl⟩
  refine jH rfl (jT 0 (vs := (xc z_11)) (cs' := (xc z_11)) rfl rfl rfl rfl kq rfl rfl (lb rfl) rfl) ?_
  rintro _ _ rfl
  refine jD <| jB <| jC <| jC <| kg (L' := [Res.row (.slice z_11.x.a0 z_11.t.calls.length z_11.x.c0) 51 6 z_11.t.calls.length (z_11.t.calls.flatMap encK), Res.row (.slice z_11.x.a1 z_11.t.ans.length z_11.x.c1) 45 3 z_11.t.ans.length (z_11.t.ans.flatMap encA), rS z_11.x.a2 z_11.x.c2 z_11.t.rd, rS z_11.x.a3 z_11.x.c3 z_11.t.wr, rI z_11.x.a4 z_11.x.c4 z_11.t.marks, bk b_13 31 (xc z_11), cb qb qa qc ql qp_8 qs_9, bk b_1 31 xzc]) (fun w hw => hw.openR 2 rfl) ?_
  have hA := hd_12
  obtain ⟨hAc, hAn, hAp, hAa, hAr, hAw, hAm⟩ := id hA
  refine jE <| jA (jF (v := .pointer (some ⟨qb, 0, none⟩)) rfl) ?_
  refine jH rfl (jM [6] Tryz.call33 rfl (D_below qb qa qc ql qp_8 qs_9 (by omega) (by omega) 12 (by omega)) rfl (fun w hw => ⟨hw.seeOut_ hs_qa (hpre.1.2), hw.apart hs_qa (hpre.1.2) (by simp)⟩)) ?_
  rintro _ _ ⟨_, ⟨qp_14, qs_15, n_17, fq_16, f_18, rfl, rfl⟩, rfl⟩
  refine jD <| jB <| jg <| jC <| jE <| jA (jw rfl rfl) <| jA (jG (v := .bool (decide (((n_17 : Nat) : Int) = 0))) rfl) <| jD <| jB ?_
  by_cases h_20 : ((n_17 : Nat) : Int) = 0
  · refine jO (cB (dT h_20)) <| jE <| jA (jF (v := .pointer (some ⟨qb, 0, none⟩)) rfl) ?_
    refine jH rfl (jM [0] Tryz.call33 rfl (D_below qb qa qc ql qp_14 qs_15 (by omega) (by omega) 5 (by omega)) rfl (fun w hw => ⟨hw.seeOut_ hs_qa (hpre.1.2), hw.apart hs_qa (hpre.1.2) (by simp)⟩)) ?_
    rintro _ _ ⟨_, ⟨qp_21, qs_22, n_24, fq_23, f_25, rfl, rfl⟩, rfl⟩
    refine jA (jJ fo31_8 rfl) ?_
    refine jH rfl (jT 6 (vs := [nv n_24]) (cs' := [iv z_11.t.id, iv z_11.t.age, iv z_11.t.proc, iv z_11.t.began, .slice z_11.x.a0 z_11.t.calls.length z_11.x.c0, .slice z_11.x.a1 z_11.t.ans.length z_11.x.c1, .slice z_11.x.a2 z_11.t.rd.length z_11.x.c2, .slice z_11.x.a3 z_11.t.wr.length z_11.x.c3, .slice z_11.x.a4 z_11.t.marks.length z_11.x.c4, nv n_24]) rfl rfl rfl rfl kt rfl rfl (lb rfl) rfl) ?_
    rintro _ _ rfl
    refine jD <| jk <| jB <| jC <| jE <| jK (jX 6 (vs := [iv z_11.t.id, iv z_11.t.age, iv z_11.t.proc, iv z_11.t.began, .slice z_11.x.a0 z_11.t.calls.length z_11.x.c0, .slice z_11.x.a1 z_11.t.ans.length z_11.x.c1, .slice z_11.x.a2 z_11.t.rd.length z_11.x.c2, .slice z_11.x.a3 z_11.t.wr.length z_11.x.c3, .slice z_11.x.a4 z_11.t.marks.length z_11.x.c4, nv n_24]) rfl rfl kz kq rfl rfl) ?_
    refine jH rfl (jT 7 (vs := [iv z_11.t.id, iv z_11.t.age, iv z_11.t.proc, iv z_11.t.began, .slice z_11.x.a0 z_11.t.calls.length z_11.x.c0, .slice z_11.x.a1 z_11.t.ans.length z_11.x.c1, .slice z_11.x.a2 z_11.t.rd.length z_11.x.c2, .slice z_11.x.a3 z_11.t.wr.length z_11.x.c3, .slice z_11.x.a4 z_11.t.marks.length z_11.x.c4, nv n_24]) (cs' := [iv z_11.t.id, iv z_11.t.age, iv z_11.t.proc, iv z_11.t.began, .slice z_11.x.a0 z_11.t.calls.length z_11.x.c0, .slice z_11.x.a1 z_11.t.ans.length z_11.x.c1, .slice z_11.x.a2 z_11.t.rd.length z_11.x.c2, .slice z_11.x.a3 z_11.t.wr.length z_11.x.c3, .slice z_11.x.a4 z_11.t.marks.length z_11.x.c4, nv n_24]) rfl rfl rfl rfl kq rfl rfl (lb rfl) rfl) ?_
    rintro _ _ rfl
    refine jD <| jB <| jL <| kO (L' := [Res.rows (rdsX (⟨⟨z_11.x.a0, z_11.x.c0, z_11.x.a1, z_11.x.c1, z_11.x.a2, z_11.x.c2, z_11.x.a3, z_11.x.c3, z_11.x.a4, z_11.x.c4⟩, ⟨z_11.t.id, z_11.t.age, z_11.t.proc, z_11.t.began, z_11.t.calls, z_11.t.ans, z_11.t.rd, z_11.t.wr, z_11.t.marks, ((n_24 : Nat) : Int)⟩⟩ : TX)), cb qb qa qc ql qp_21 qs_22, bk b_13 31 [iv z_11.t.id, iv z_11.t.age, iv z_11.t.proc, iv z_11.t.began, .slice z_11.x.a0 z_11.t.calls.length z_11.x.c0, .slice z_11.x.a1 z_11.t.ans.length z_11.x.c1, .slice z_11.x.a2 z_11.t.rd.length z_11.x.c2, .slice z_11.x.a3 z_11.t.wr.length z_11.x.c3, .slice z_11.x.a4 z_11.t.marks.length z_11.x.c4, nv n_24], bk b_1 31 [iv z_11.t.id, iv z_11.t.age, iv z_11.t.proc, iv z_11.t.began, .slice z_11.x.a0 z_11.t.calls.length z_11.x.c0, .slice z_11.x.a1 z_11.t.ans.length z_11.x.c1, .slice z_11.x.a2 z_11.t.rd.length z_11.x.c2, .slice z_11.x.a3 z_11.t.wr.length z_11.x.c3, .slice z_11.x.a4 z_11.t.marks.length z_11.x.c4, nv n_24]]) (fun w hw => hw.closeR (A := rdsX (⟨⟨z_11.x.a0, z_11.x.c0, z_11.x.a1, z_11.x.c1, z_11.x.a2, z_11.x.c2, z_11.x.a3, z_11.x.c3, z_11.x.a4, z_11.x.c4⟩, ⟨z_11.t.id, z_11.t.age, z_11.t.proc, z_11.t.began, z_11.t.calls, z_11.t.ans, z_11.t.rd, z_11.t.wr, z_11.t.marks, ((n_24 : Nat) : Int)⟩⟩ : TX)) [1, 1, 1, 1, 1] rfl) <| kR (pick_perm [1, 0] (A := [cb qb qa qc ql qp_21 qs_22, Res.rows (rdsX (⟨⟨z_11.x.a0, z_11.x.c0, z_11.x.a1, z_11.x.c1, z_11.x.a2, z_11.x.c2, z_11.x.a3, z_11.x.c3, z_11.x.a4, z_11.x.c4⟩, ⟨z_11.t.id, z_11.t.age, z_11.t.proc, z_11.t.began, z_11.t.calls, z_11.t.ans, z_11.t.rd, z_11.t.wr, z_11.t.marks, ((n_24 : Nat) : Int)⟩⟩ : TX))]) (F := [bk b_13 31 [iv z_11.t.id, iv z_11.t.age, iv z_11.t.proc, iv z_11.t.began, .slice z_11.x.a0 z_11.t.calls.length z_11.x.c0, .slice z_11.x.a1 z_11.t.ans.length z_11.x.c1, .slice z_11.x.a2 z_11.t.rd.length z_11.x.c2, .slice z_11.x.a3 z_11.t.wr.length z_11.x.c3, .slice z_11.x.a4 z_11.t.marks.length z_11.x.c4, nv n_24], bk b_1 31 [iv z_11.t.id, iv z_11.t.age, iv z_11.t.proc, iv z_11.t.began, .slice z_11.x.a0 z_11.t.calls.length z_11.x.c0, .slice z_11.x.a1 z_11.t.ans.length z_11.x.c1, .slice z_11.x.a2 z_11.t.rd.length z_11.x.c2, .slice z_11.x.a3 z_11.t.wr.length z_11.x.c3, .slice z_11.x.a4 z_11.t.marks.length z_11.x.c4, nv n_24]]) rfl).symm <| jR (.inl rfl) rfl (je (jX 3 (vs := [iv z_11.t.id, iv z_11.t.age, iv z_11.t.proc, iv z_11.t.began, .slice z_11.x.a0 z_11.t.calls.length z_11.x.c0, .slice z_11.x.a1 z_11.t.ans.length z_11.x.c1, .slice z_11.x.a2 z_11.t.rd.length z_11.x.c2, .slice z_11.x.a3 z_11.t.wr.length z_11.x.c3, .slice z_11.x.a4 z_11.t.marks.length z_11.x.c4, nv n_24]) rfl rfl kz kq rfl rfl) ⟨_, rfl⟩) (tS 2 _) ?_
    exact ⟨qp_21, qs_22, (⟨⟨z_11.x.a0, z_11.x.c0, z_11.x.a1, z_11.x.c1, z_11.x.a2, z_11.x.c2, z_11.x.a3, z_11.x.c3, z_11.x.a4, z_11.x.c4⟩, ⟨z_11.t.id, z_11.t.age, z_11.t.proc, z_11.t.began, z_11.t.calls, z_11.t.ans, z_11.t.rd, z_11.t.wr, z_11.t.marks, ((n_24 : Nat) : Int)⟩⟩ : TX), by omega, ⟨hAc, (by dsimp only; (try simp only [List.length_set, List.length_append, List.length_cons, List.length_nil]); omega), hAp, (by dsimp only; (try simp only [List.length_set, List.length_append, List.length_cons, List.length_nil]); omega), (by dsimp only; (try simp only [List.length_set, List.length_append, List.length_cons, List.length_nil]); omega), (by dsimp only; (try simp only [List.length_set, List.length_append, List.length_cons, List.length_nil]); omega), (by dsimp only; (try simp only [List.length_set, List.length_append, List.length_cons, List.length_nil]); omega)⟩, rfl, rfl⟩
  refine jP (cB (dF h_20)) <| jC <| jE <| jA (jw rfl rfl) <| jA (jG (v := .bool (decide (((n_17 : Nat) : Int) = 1))) rfl) <| jD <| jB ?_
  by_cases h_27 : ((n_17 : Nat) : Int) = 1
  · refine jO (cB (dT h_27)) <| jg <| kC (fun k_ e_ L_ => ∃ n_ : Nat, ∃ p_q : Nat, ∃ s_q : Int, ∃ o_a : Option Addr, ∃ o_c : Nat, ∃ o_ : List CL, (p_q ≤ ql.length) ∧ (n_ ≤ o_.length) ∧ (o_.length ≤ 12) ∧ (∀ c ∈ o_, c.ok 1048576) ∧ e_ 0 = .pointer (some ⟨qb, 0, none⟩) ∧ e_ 4 = .pointer (some ⟨b_1, 0, none⟩) ∧ e_ 5 = .pointer (some ⟨b_13, 0, none⟩) ∧ L_ = [cb qb qa qc ql p_q s_q, Res.row (.slice o_a o_.length o_c) 51 6 o_.length (o_.flatMap encK), Res.row (.slice z_11.x.a1 z_11.t.ans.length z_11.x.c1) 45 3 z_11.t.ans.length (z_11.t.ans.flatMap encA), rS z_11.x.a2 z_11.x.c2 z_11.t.rd, rS z_11.x.a3 z_11.x.c3 z_11.t.wr, rI z_11.x.a4 z_11.x.c4 z_11.t.marks, bk b_13 31 [iv z_11.t.id, iv z_11.t.age, iv z_11.t.proc, iv z_11.t.began, .slice o_a o_.length o_c, .slice z_11.x.a1 z_11.t.ans.length z_11.x.c1, .slice z_11.x.a2 z_11.t.rd.length z_11.x.c2, .slice z_11.x.a3 z_11.t.wr.length z_11.x.c3, .slice z_11.x.a4 z_11.t.marks.length z_11.x.c4, iv z_11.t.state], bk b_1 31 xzc] ∧ k_ = 13 - n_) _ ⟨0, qp_14, qs_15, z_11.x.a0, z_11.x.c0, z_11.t.calls, (by omega), (Nat.zero_le _), (by omega), hAc, rfl, rfl, rfl, rfl, rfl⟩ ?_
    rintro _ e_28 _ ⟨n_, p_q, s_q, o_a, o_c, o_, hpq_, hog, hol, hoc, he_29, he_30, he_31, rfl, rfl⟩
    refine jC <| jC <| jr [bk b_13 31 [iv z_11.t.id, iv z_11.t.age, iv z_11.t.proc, iv z_11.t.began, .slice o_a o_.length o_c, .slice z_11.x.a1 z_11.t.ans.length z_11.x.c1, .slice z_11.x.a2 z_11.t.rd.length z_11.x.c2, .slice z_11.x.a3 z_11.t.wr.length z_11.x.c3, .slice z_11.x.a4 z_11.t.marks.length z_11.x.c4, iv z_11.t.state]] 1000 mixed (by simp) <| jI 0 rfl (jJ fo31_4 he_31) <| jh 1 rfl (jV 0 (v := .slice o_a o_.length o_c) rfl rfl gb rfl) <| jI 2 rfl (jp gD rfl) <| jI 3 rfl (jF (v := .pointer (some ⟨qb, 0, none⟩)) he_29) <| jQ (i := 4) ?_
    refine jY rfl rfl (jM [0] Tryz.call33 rfl (D_below qb qa qc ql p_q s_q (by omega) (by omega) 2 (by omega)) rfl (fun w hw => ⟨hw.seeOut_ hs_qa (hpre.1.2), hw.apart hs_qa (hpre.1.2) (by simp)⟩)) ?_
    rintro _ _ ⟨_, ⟨qp_38, qs_39, n_41, fq_40, f_42, rfl, rfl⟩, rfl⟩
    refine ⟨(by simp), ?_⟩
    refine jI 5 rfl (ji (c := ((11 + n_41 : Nat) : Int)) rfl rfl (wr (by omega))) <| jI 6 rfl (jo rfl rfl) <| kI (by kernel_rfl) <| jB ?_
    by_cases h_44 : ((o_.length : Nat) : Int) < ((11 + n_41 : Nat) : Int)
    · refine jO (cB (dT h_44)) <| jU <| jB <| jg <| jE <| jA (jJ fo31_4 he_31) <| jK (jV 6 (v := .slice o_a o_.length o_c) rfl rfl gb rfl) <| jA (kY (ps := [(0, iv 5)]) (cs := [iv 5, str [], str [], iv 0, iv 0, str []]) rfl (by kernel_rfl)) ?_
      refine jH rfl (kJ (ps := [(0, .agg #[iv 5, str [], str [], iv 0, iv 0, str []])]) (cur := #[iv 5, str [], str [], iv 0, iv 0, str []]) gD ko gr rfl (by kernel_rfl) (by decide) (by decide)) ?_
      rintro _ _ ⟨a_45, rfl, rfl⟩
      refine jH rfl (kM 2 (q := 1) (news := ([(⟨5, [], [], 0, 0, []⟩ : CL)] : List CL).flatMap encK) (n' := (o_ ++ ([(⟨5, [], [], 0, 0, []⟩ : CL)] : List CL)).length) (cs' := (o_ ++ ([(⟨5, [], [], 0, 0, []⟩ : CL)] : List CL)).flatMap encK) rfl gD gD Tryz.typeInfo51 rfl (by' := 72) rfl rfl rfl rfl rfl (fun w hw => Src.sees (hw.see (i := 0) rfl) (oneK _)) (by (try simp only [LE]); omega) (by (try simp only [LE]); omega) (by simp only [List.length_append, List.length_take, List.length_drop, List.length_cons, List.length_nil] <;> first | rfl | omega) (by simp only [List.flatMap_append])) ?_
      rintro _ _ ⟨a_46, c_47, rfl, rfl⟩
      refine jA (jJ fo31_4 he_31) ?_
      refine jH rfl (jT 7 (vs := [.slice a_46 ((o_ ++ ([(⟨5, [], [], 0, 0, []⟩ : CL)] : List CL)).length) c_47]) (cs' := [iv z_11.t.id, iv z_11.t.age, iv z_11.t.proc, iv z_11.t.began, .slice a_46 ((o_ ++ ([(⟨5, [], [], 0, 0, []⟩ : CL)] : List CL)).length) c_47, .slice z_11.x.a1 z_11.t.ans.length z_11.x.c1, .slice z_11.x.a2 z_11.t.rd.length z_11.x.c2, .slice z_11.x.a3 z_11.t.wr.length z_11.x.c3, .slice z_11.x.a4 z_11.t.marks.length z_11.x.c4, iv z_11.t.state]) rfl rfl rfl rfl Tryz.sizeOf24 rfl rfl (lb rfl) rfl) ?_
      rintro _ _ rfl
      refine jD <| jk <| kH [1, 1, 1, 1, 1, 1, 1, 1] (A := [cb qb qa qc ql qp_38 qs_39, Res.row (.slice a_46 ((o_ ++ ([(⟨5, [], [], 0, 0, []⟩ : CL)] : List CL)).length) c_47) 51 6 ((o_ ++ ([(⟨5, [], [], 0, 0, []⟩ : CL)] : List CL)).length) ((o_ ++ ([(⟨5, [], [], 0, 0, []⟩ : CL)] : List CL)).flatMap encK), Res.row (.slice z_11.x.a1 z_11.t.ans.length z_11.x.c1) 45 3 z_11.t.ans.length (z_11.t.ans.flatMap encA), rS z_11.x.a2 z_11.x.c2 z_11.t.rd, rS z_11.x.a3 z_11.x.c3 z_11.t.wr, rI z_11.x.a4 z_11.x.c4 z_11.t.marks, bk b_13 31 [iv z_11.t.id, iv z_11.t.age, iv z_11.t.proc, iv z_11.t.began, .slice a_46 ((o_ ++ ([(⟨5, [], [], 0, 0, []⟩ : CL)] : List CL)).length) c_47, .slice z_11.x.a1 z_11.t.ans.length z_11.x.c1, .slice z_11.x.a2 z_11.t.rd.length z_11.x.c2, .slice z_11.x.a3 z_11.t.wr.length z_11.x.c3, .slice z_11.x.a4 z_11.t.marks.length z_11.x.c4, iv z_11.t.state], bk b_1 31 xzc]) rfl ?_
      refine ju (13 - (n_ + 1)) (by omega) ⟨(n_ + 1), qp_38, qs_39, a_46, c_47, (o_ ++ ([(⟨5, [], [], 0, 0, []⟩ : CL)] : List CL)), (by omega), (by first | omega | (simp only [List.length_append, List.length_cons, List.length_nil, List.length_set]; omega)), (by first | omega | (simp only [List.length_append, List.length_cons, List.length_nil, List.length_set]; omega)), (fun c hc => by rcases List.mem_append.1 hc with hc | hc; exact hoc c hc; rw [List.mem_singleton] at hc; subst hc; exact ⟨by dsimp only; omega, by dsimp only; omega, by dsimp only; omega, Nat.zero_le _, Nat.zero_le _, Nat.zero_le _⟩), he_29, he_30, he_31, rfl, rfl⟩
    refine jP (cB (dF h_44)) <| jz <| jj <| jj <| kA <| jk <| jB <| jC <| jE <| jK (jX 6 (vs := [iv z_11.t.id, iv z_11.t.age, iv z_11.t.proc, iv z_11.t.began, .slice o_a o_.length o_c, .slice z_11.x.a1 z_11.t.ans.length z_11.x.c1, .slice z_11.x.a2 z_11.t.rd.length z_11.x.c2, .slice z_11.x.a3 z_11.t.wr.length z_11.x.c3, .slice z_11.x.a4 z_11.t.marks.length z_11.x.c4, iv z_11.t.state]) rfl he_31 kz kq rfl rfl) ?_
    refine jH rfl (jT 7 (vs := [iv z_11.t.id, iv z_11.t.age, iv z_11.t.proc, iv z_11.t.began, .slice o_a o_.length o_c, .slice z_11.x.a1 z_11.t.ans.length z_11.x.c1, .slice z_11.x.a2 z_11.t.rd.length z_11.x.c2, .slice z_11.x.a3 z_11.t.wr.length z_11.x.c3, .slice z_11.x.a4 z_11.t.marks.length z_11.x.c4, iv z_11.t.state]) (cs' := [iv z_11.t.id, iv z_11.t.age, iv z_11.t.proc, iv z_11.t.began, .slice o_a o_.length o_c, .slice z_11.x.a1 z_11.t.ans.length z_11.x.c1, .slice z_11.x.a2 z_11.t.rd.length z_11.x.c2, .slice z_11.x.a3 z_11.t.wr.length z_11.x.c3, .slice z_11.x.a4 z_11.t.marks.length z_11.x.c4, iv z_11.t.state]) rfl he_30 rfl rfl kq rfl rfl (lb rfl) rfl) ?_
    rintro _ _ rfl
    refine jD <| jB <| jL <| kO (L' := [Res.rows (rdsX (⟨⟨o_a, o_c, z_11.x.a1, z_11.x.c1, z_11.x.a2, z_11.x.c2, z_11.x.a3, z_11.x.c3, z_11.x.a4, z_11.x.c4⟩, ⟨z_11.t.id, z_11.t.age, z_11.t.proc, z_11.t.began, o_, z_11.t.ans, z_11.t.rd, z_11.t.wr, z_11.t.marks, z_11.t.state⟩⟩ : TX)), cb qb qa qc ql qp_38 qs_39, bk b_13 31 [iv z_11.t.id, iv z_11.t.age, iv z_11.t.proc, iv z_11.t.began, .slice o_a o_.length o_c, .slice z_11.x.a1 z_11.t.ans.length z_11.x.c1, .slice z_11.x.a2 z_11.t.rd.length z_11.x.c2, .slice z_11.x.a3 z_11.t.wr.length z_11.x.c3, .slice z_11.x.a4 z_11.t.marks.length z_11.x.c4, iv z_11.t.state], bk b_1 31 [iv z_11.t.id, iv z_11.t.age, iv z_11.t.proc, iv z_11.t.began, .slice o_a o_.length o_c, .slice z_11.x.a1 z_11.t.ans.length z_11.x.c1, .slice z_11.x.a2 z_11.t.rd.length z_11.x.c2, .slice z_11.x.a3 z_11.t.wr.length z_11.x.c3, .slice z_11.x.a4 z_11.t.marks.length z_11.x.c4, iv z_11.t.state]]) (fun w hw => hw.closeR (A := rdsX (⟨⟨o_a, o_c, z_11.x.a1, z_11.x.c1, z_11.x.a2, z_11.x.c2, z_11.x.a3, z_11.x.c3, z_11.x.a4, z_11.x.c4⟩, ⟨z_11.t.id, z_11.t.age, z_11.t.proc, z_11.t.began, o_, z_11.t.ans, z_11.t.rd, z_11.t.wr, z_11.t.marks, z_11.t.state⟩⟩ : TX)) [1, 1, 1, 1, 1] rfl) <| kR (pick_perm [1, 0] (A := [cb qb qa qc ql qp_38 qs_39, Res.rows (rdsX (⟨⟨o_a, o_c, z_11.x.a1, z_11.x.c1, z_11.x.a2, z_11.x.c2, z_11.x.a3, z_11.x.c3, z_11.x.a4, z_11.x.c4⟩, ⟨z_11.t.id, z_11.t.age, z_11.t.proc, z_11.t.began, o_, z_11.t.ans, z_11.t.rd, z_11.t.wr, z_11.t.marks, z_11.t.state⟩⟩ : TX))]) (F := [bk b_13 31 [iv z_11.t.id, iv z_11.t.age, iv z_11.t.proc, iv z_11.t.began, .slice o_a o_.length o_c, .slice z_11.x.a1 z_11.t.ans.length z_11.x.c1, .slice z_11.x.a2 z_11.t.rd.length z_11.x.c2, .slice z_11.x.a3 z_11.t.wr.length z_11.x.c3, .slice z_11.x.a4 z_11.t.marks.length z_11.x.c4, iv z_11.t.state], bk b_1 31 [iv z_11.t.id, iv z_11.t.age, iv z_11.t.proc, iv z_11.t.began, .slice o_a o_.length o_c, .slice z_11.x.a1 z_11.t.ans.length z_11.x.c1, .slice z_11.x.a2 z_11.t.rd.length z_11.x.c2, .slice z_11.x.a3 z_11.t.wr.length z_11.x.c3, .slice z_11.x.a4 z_11.t.marks.length z_11.x.c4, iv z_11.t.state]]) rfl).symm <| jR (.inl rfl) rfl (je (jX 3 (vs := [iv z_11.t.id, iv z_11.t.age, iv z_11.t.proc, iv z_11.t.began, .slice o_a o_.length o_c, .slice z_11.x.a1 z_11.t.ans.length z_11.x.c1, .slice z_11.x.a2 z_11.t.rd.length z_11.x.c2, .slice z_11.x.a3 z_11.t.wr.length z_11.x.c3, .slice z_11.x.a4 z_11.t.marks.length z_11.x.c4, iv z_11.t.state]) rfl he_30 kz kq rfl rfl) ⟨_, he_30⟩) (tS 2 _) ?_
    exact ⟨qp_38, qs_39, (⟨⟨o_a, o_c, z_11.x.a1, z_11.x.c1, z_11.x.a2, z_11.x.c2, z_11.x.a3, z_11.x.c3, z_11.x.a4, z_11.x.c4⟩, ⟨z_11.t.id, z_11.t.age, z_11.t.proc, z_11.t.began, o_, z_11.t.ans, z_11.t.rd, z_11.t.wr, z_11.t.marks, z_11.t.state⟩⟩ : TX), by omega, ⟨hoc, (by dsimp only; (try simp only [List.length_set, List.length_append, List.length_cons, List.length_nil]); omega), hAp, (by dsimp only; (try simp only [List.length_set, List.length_append, List.length_cons, List.length_nil]); omega), (by dsimp only; (try simp only [List.length_set, List.length_append, List.length_cons, List.length_nil]); omega), (by dsimp only; (try simp only [List.length_set, List.length_append, List.length_cons, List.length_nil]); omega), (by dsimp only; (try simp only [List.length_set, List.length_append, List.length_cons, List.length_nil]); omega)⟩, rfl, rfl⟩
  refine jP (cB (dF h_27)) <| jC <| jE <| jA (jw rfl rfl) <| jA (jG (v := .bool (decide (((n_17 : Nat) : Int) = 2))) rfl) <| jD <| jB ?_
  by_cases h_48 : ((n_17 : Nat) : Int) = 2
  · refine jO (cB (dT h_48)) <| jE <| jA (jF (v := .pointer (some ⟨qb, 0, none⟩)) rfl) ?_
    refine jH rfl (jM [0] Tryz.call204 rfl (D_touch03 qb qa qc ql qp_14 qs_15 (by omega) (by omega)) rfl (fun w hw => ⟨hw.seeOut_ hs_qa (hpre.1.2), hw.apart hs_qa (hpre.1.2) (by simp)⟩)) ?_
    rintro _ _ ⟨_, ⟨qp_49, qs_50, T_52ra, T_52rc, T_52r, T_52wa, T_52wc, T_52w, fq_51, f_53, rfl, rfl⟩, rfl⟩
    refine jA (jJ fo31_6 rfl) ?_
    refine jH rfl (jT 8 (vs := [.slice T_52ra T_52r.length T_52rc, .slice T_52wa T_52w.length T_52wc]) (cs' := [iv z_11.t.id, iv z_11.t.age, iv z_11.t.proc, iv z_11.t.began, .slice z_11.x.a0 z_11.t.calls.length z_11.x.c0, .slice z_11.x.a1 z_11.t.ans.length z_11.x.c1, .slice T_52ra T_52r.length T_52rc, .slice T_52wa T_52w.length T_52wc, .slice z_11.x.a4 z_11.t.marks.length z_11.x.c4, iv z_11.t.state]) rfl rfl rfl rfl kx rfl rfl (lb rfl) rfl) ?_
    rintro _ _ rfl
    refine jD <| jk <| jB <| jC <| jE <| jK (jX 8 (vs := [iv z_11.t.id, iv z_11.t.age, iv z_11.t.proc, iv z_11.t.began, .slice z_11.x.a0 z_11.t.calls.length z_11.x.c0, .slice z_11.x.a1 z_11.t.ans.length z_11.x.c1, .slice T_52ra T_52r.length T_52rc, .slice T_52wa T_52w.length T_52wc, .slice z_11.x.a4 z_11.t.marks.length z_11.x.c4, iv z_11.t.state]) rfl rfl kz kq rfl rfl) ?_
    refine jH rfl (jT 9 (vs := [iv z_11.t.id, iv z_11.t.age, iv z_11.t.proc, iv z_11.t.began, .slice z_11.x.a0 z_11.t.calls.length z_11.x.c0, .slice z_11.x.a1 z_11.t.ans.length z_11.x.c1, .slice T_52ra T_52r.length T_52rc, .slice T_52wa T_52w.length T_52wc, .slice z_11.x.a4 z_11.t.marks.length z_11.x.c4, iv z_11.t.state]) (cs' := [iv z_11.t.id, iv z_11.t.age, iv z_11.t.proc, iv z_11.t.began, .slice z_11.x.a0 z_11.t.calls.length z_11.x.c0, .slice z_11.x.a1 z_11.t.ans.length z_11.x.c1, .slice T_52ra T_52r.length T_52rc, .slice T_52wa T_52w.length T_52wc, .slice z_11.x.a4 z_11.t.marks.length z_11.x.c4, iv z_11.t.state]) rfl rfl rfl rfl kq rfl rfl (lb rfl) rfl) ?_
    rintro _ _ rfl
    refine jD <| jB <| jL <| kO (L' := [Res.rows (rdsX (⟨⟨z_11.x.a0, z_11.x.c0, z_11.x.a1, z_11.x.c1, T_52ra, T_52rc, T_52wa, T_52wc, z_11.x.a4, z_11.x.c4⟩, ⟨z_11.t.id, z_11.t.age, z_11.t.proc, z_11.t.began, z_11.t.calls, z_11.t.ans, T_52r, T_52w, z_11.t.marks, z_11.t.state⟩⟩ : TX)), cb qb qa qc ql qp_49 qs_50, rS z_11.x.a2 z_11.x.c2 z_11.t.rd, rS z_11.x.a3 z_11.x.c3 z_11.t.wr, bk b_13 31 [iv z_11.t.id, iv z_11.t.age, iv z_11.t.proc, iv z_11.t.began, .slice z_11.x.a0 z_11.t.calls.length z_11.x.c0, .slice z_11.x.a1 z_11.t.ans.length z_11.x.c1, .slice T_52ra T_52r.length T_52rc, .slice T_52wa T_52w.length T_52wc, .slice z_11.x.a4 z_11.t.marks.length z_11.x.c4, iv z_11.t.state], bk b_1 31 [iv z_11.t.id, iv z_11.t.age, iv z_11.t.proc, iv z_11.t.began, .slice z_11.x.a0 z_11.t.calls.length z_11.x.c0, .slice z_11.x.a1 z_11.t.ans.length z_11.x.c1, .slice T_52ra T_52r.length T_52rc, .slice T_52wa T_52w.length T_52wc, .slice z_11.x.a4 z_11.t.marks.length z_11.x.c4, iv z_11.t.state]]) (fun w hw => hw.closeR (A := rdsX (⟨⟨z_11.x.a0, z_11.x.c0, z_11.x.a1, z_11.x.c1, T_52ra, T_52rc, T_52wa, T_52wc, z_11.x.a4, z_11.x.c4⟩, ⟨z_11.t.id, z_11.t.age, z_11.t.proc, z_11.t.began, z_11.t.calls, z_11.t.ans, T_52r, T_52w, z_11.t.marks, z_11.t.state⟩⟩ : TX)) [3, 3, 1, 1, 3] rfl) <| kR (pick_perm [1, 0] (A := [cb qb qa qc ql qp_49 qs_50, Res.rows (rdsX (⟨⟨z_11.x.a0, z_11.x.c0, z_11.x.a1, z_11.x.c1, T_52ra, T_52rc, T_52wa, T_52wc, z_11.x.a4, z_11.x.c4⟩, ⟨z_11.t.id, z_11.t.age, z_11.t.proc, z_11.t.began, z_11.t.calls, z_11.t.ans, T_52r, T_52w, z_11.t.marks, z_11.t.state⟩⟩ : TX))]) (F := [rS z_11.x.a2 z_11.x.c2 z_11.t.rd, rS z_11.x.a3 z_11.x.c3 z_11.t.wr, bk b_13 31 [iv z_11.t.id, iv z_11.t.age, iv z_11.t.proc, iv z_11.t.began, .slice z_11.x.a0 z_11.t.calls.length z_11.x.c0, .slice z_11.x.a1 z_11.t.ans.length z_11.x.c1, .slice T_52ra T_52r.length T_52rc, .slice T_52wa T_52w.length T_52wc, .slice z_11.x.a4 z_11.t.marks.length z_11.x.c4, iv z_11.t.state], bk b_1 31 [iv z_11.t.id, iv z_11.t.age, iv z_11.t.proc, iv z_11.t.began, .slice z_11.x.a0 z_11.t.calls.length z_11.x.c0, .slice z_11.x.a1 z_11.t.ans.length z_11.x.c1, .slice T_52ra T_52r.length T_52rc, .slice T_52wa T_52w.length T_52wc, .slice z_11.x.a4 z_11.t.marks.length z_11.x.c4, iv z_11.t.state]]) rfl).symm <| jR (.inl rfl) rfl (je (jX 5 (vs := [iv z_11.t.id, iv z_11.t.age, iv z_11.t.proc, iv z_11.t.began, .slice z_11.x.a0 z_11.t.calls.length z_11.x.c0, .slice z_11.x.a1 z_11.t.ans.length z_11.x.c1, .slice T_52ra T_52r.length T_52rc, .slice T_52wa T_52w.length T_52wc, .slice z_11.x.a4 z_11.t.marks.length z_11.x.c4, iv z_11.t.state]) rfl rfl kz kq rfl rfl) ⟨_, rfl⟩) (tS 2 _) ?_
    exact ⟨qp_49, qs_50, (⟨⟨z_11.x.a0, z_11.x.c0, z_11.x.a1, z_11.x.c1, T_52ra, T_52rc, T_52wa, T_52wc, z_11.x.a4, z_11.x.c4⟩, ⟨z_11.t.id, z_11.t.age, z_11.t.proc, z_11.t.began, z_11.t.calls, z_11.t.ans, T_52r, T_52w, z_11.t.marks, z_11.t.state⟩⟩ : TX), by omega, ⟨hAc, (by dsimp only; (try simp only [List.length_set, List.length_append, List.length_cons, List.length_nil]); omega), hAp, (by dsimp only; (try simp only [List.length_set, List.length_append, List.length_cons, List.length_nil]); omega), (by dsimp only; (try simp only [List.length_set, List.length_append, List.length_cons, List.length_nil]); omega), (by dsimp only; (try simp only [List.length_set, List.length_append, List.length_cons, List.length_nil]); omega), (by dsimp only; (try simp only [List.length_set, List.length_append, List.length_cons, List.length_nil]); omega)⟩, rfl, rfl⟩
  refine jP (cB (dF h_48)) <| jC <| jE <| jA (jw rfl rfl) <| jA (jG (v := .bool (decide (((n_17 : Nat) : Int) = 3))) rfl) <| jD <| jB ?_
  by_cases h_55 : ((n_17 : Nat) : Int) = 3
  · refine jO (cB (dT h_55)) <| jr [bk b_13 31 (xc z_11)] 6 mixed (by simp) <| jI 0 rfl (jJ fo31_7 rfl) <| jh 1 rfl (jV 0 (v := .slice z_11.x.a4 z_11.t.marks.length z_11.x.c4) rfl rfl gS rfl) <| jI 2 rfl (jF (v := .pointer (some ⟨qb, 0, none⟩)) rfl) <| jQ (i := 3) ?_
    refine jY rfl rfl (jM [0] Tryz.call33 rfl (D_below qb qa qc ql qp_14 qs_15 (by omega) (by omega) 20 (by omega)) rfl (fun w hw => ⟨hw.seeOut_ hs_qa (hpre.1.2), hw.apart hs_qa (hpre.1.2) (by simp)⟩)) ?_
    rintro _ _ ⟨_, ⟨qp_62, qs_63, n_65, fq_64, f_66, rfl, rfl⟩, rfl⟩
    refine ⟨(by simp), ?_⟩
    refine jI 4 rfl (kW (c := ((n_65 : Nat) : Int) - 5) rfl rfl (wr (by omega))) <| jQ (i := 5) ?_
    refine jY rfl rfl (kJ (ps := [(0, iv (((n_65 : Nat) : Int) - 5))]) (cur := #[iv (((n_65 : Nat) : Int) - 5)]) gB kt Tryz.zeroValue3 rfl (by kernel_rfl) (by decide) (by decide)) ?_
    rintro _ _ ⟨a_69, rfl, rfl⟩
    refine ⟨(by simp), ?_⟩
    refine jQ (i := 6) ?_
    refine kF rfl (kM 6 (q := 1) (news := ([((n_65 : Nat) : Int) - 5] : List Int).map (Value.int .i64)) (n' := (z_11.t.marks ++ ([((n_65 : Nat) : Int) - 5] : List Int)).length) (cs' := (z_11.t.marks ++ ([((n_65 : Nat) : Int) - 5] : List Int)).map (Value.int .i64)) rfl gB gB Tryz.typeInfo3 rfl (by' := 8) rfl rfl rfl rfl rfl (fun w hw => Src.sees (hw.see (i := 0) rfl) (oneI _)) (by (try simp only [LE]); omega) (by (try simp only [LE]); omega) (by simp only [List.length_append, List.length_take, List.length_drop, List.length_cons, List.length_nil] <;> first | rfl | omega) (by simp only [List.map_append])) ?_
    rintro _ _ ⟨a_72, c_73, rfl, rfl⟩
    refine jI 7 rfl (jJ fo31_7 rfl) <| jQ (i := 8) ?_
    refine jx rfl (jT 7 (vs := [.slice a_72 ((z_11.t.marks ++ ([((n_65 : Nat) : Int) - 5] : List Int)).length) c_73]) (cs' := [iv z_11.t.id, iv z_11.t.age, iv z_11.t.proc, iv z_11.t.began, .slice z_11.x.a0 z_11.t.calls.length z_11.x.c0, .slice z_11.x.a1 z_11.t.ans.length z_11.x.c1, .slice z_11.x.a2 z_11.t.rd.length z_11.x.c2, .slice z_11.x.a3 z_11.t.wr.length z_11.x.c3, .slice a_72 ((z_11.t.marks ++ ([((n_65 : Nat) : Int) - 5] : List Int)).length) c_73, iv z_11.t.state]) rfl rfl rfl rfl Tryz.sizeOf29 rfl rfl (lb rfl) rfl) ?_
    rintro _ _ rfl
    refine jk <| jB <| jC <| jE <| jK (jX 7 (vs := [iv z_11.t.id, iv z_11.t.age, iv z_11.t.proc, iv z_11.t.began, .slice z_11.x.a0 z_11.t.calls.length z_11.x.c0, .slice z_11.x.a1 z_11.t.ans.length z_11.x.c1, .slice z_11.x.a2 z_11.t.rd.length z_11.x.c2, .slice z_11.x.a3 z_11.t.wr.length z_11.x.c3, .slice a_72 ((z_11.t.marks ++ ([((n_65 : Nat) : Int) - 5] : List Int)).length) c_73, iv z_11.t.state]) rfl rfl kz kq rfl rfl) ?_
    refine jH rfl (jT 8 (vs := [iv z_11.t.id, iv z_11.t.age, iv z_11.t.proc, iv z_11.t.began, .slice z_11.x.a0 z_11.t.calls.length z_11.x.c0, .slice z_11.x.a1 z_11.t.ans.length z_11.x.c1, .slice z_11.x.a2 z_11.t.rd.length z_11.x.c2, .slice z_11.x.a3 z_11.t.wr.length z_11.x.c3, .slice a_72 ((z_11.t.marks ++ ([((n_65 : Nat) : Int) - 5] : List Int)).length) c_73, iv z_11.t.state]) (cs' := [iv z_11.t.id, iv z_11.t.age, iv z_11.t.proc, iv z_11.t.began, .slice z_11.x.a0 z_11.t.calls.length z_11.x.c0, .slice z_11.x.a1 z_11.t.ans.length z_11.x.c1, .slice z_11.x.a2 z_11.t.rd.length z_11.x.c2, .slice z_11.x.a3 z_11.t.wr.length z_11.x.c3, .slice a_72 ((z_11.t.marks ++ ([((n_65 : Nat) : Int) - 5] : List Int)).length) c_73, iv z_11.t.state]) rfl rfl rfl rfl kq rfl rfl (lb rfl) rfl) ?_
    rintro _ _ rfl
    refine jD <| jB <| jL <| kO (L' := [Res.rows (rdsX (⟨⟨z_11.x.a0, z_11.x.c0, z_11.x.a1, z_11.x.c1, z_11.x.a2, z_11.x.c2, z_11.x.a3, z_11.x.c3, a_72, c_73⟩, ⟨z_11.t.id, z_11.t.age, z_11.t.proc, z_11.t.began, z_11.t.calls, z_11.t.ans, z_11.t.rd, z_11.t.wr, (z_11.t.marks ++ ([((n_65 : Nat) : Int) - 5] : List Int)), z_11.t.state⟩⟩ : TX)), Res.row (.slice a_69 1 1) 3 1 1 (([((n_65 : Nat) : Int) - 5] : List Int).map (Value.int .i64)), cb qb qa qc ql qp_62 qs_63, bk b_13 31 [iv z_11.t.id, iv z_11.t.age, iv z_11.t.proc, iv z_11.t.began, .slice z_11.x.a0 z_11.t.calls.length z_11.x.c0, .slice z_11.x.a1 z_11.t.ans.length z_11.x.c1, .slice z_11.x.a2 z_11.t.rd.length z_11.x.c2, .slice z_11.x.a3 z_11.t.wr.length z_11.x.c3, .slice a_72 ((z_11.t.marks ++ ([((n_65 : Nat) : Int) - 5] : List Int)).length) c_73, iv z_11.t.state], bk b_1 31 [iv z_11.t.id, iv z_11.t.age, iv z_11.t.proc, iv z_11.t.began, .slice z_11.x.a0 z_11.t.calls.length z_11.x.c0, .slice z_11.x.a1 z_11.t.ans.length z_11.x.c1, .slice z_11.x.a2 z_11.t.rd.length z_11.x.c2, .slice z_11.x.a3 z_11.t.wr.length z_11.x.c3, .slice a_72 ((z_11.t.marks ++ ([((n_65 : Nat) : Int) - 5] : List Int)).length) c_73, iv z_11.t.state]]) (fun w hw => hw.closeR (A := rdsX (⟨⟨z_11.x.a0, z_11.x.c0, z_11.x.a1, z_11.x.c1, z_11.x.a2, z_11.x.c2, z_11.x.a3, z_11.x.c3, a_72, c_73⟩, ⟨z_11.t.id, z_11.t.age, z_11.t.proc, z_11.t.began, z_11.t.calls, z_11.t.ans, z_11.t.rd, z_11.t.wr, (z_11.t.marks ++ ([((n_65 : Nat) : Int) - 5] : List Int)), z_11.t.state⟩⟩ : TX)) [2, 2, 2, 2, 2] rfl) <| kR (pick_perm [2, 0] (A := [cb qb qa qc ql qp_62 qs_63, Res.rows (rdsX (⟨⟨z_11.x.a0, z_11.x.c0, z_11.x.a1, z_11.x.c1, z_11.x.a2, z_11.x.c2, z_11.x.a3, z_11.x.c3, a_72, c_73⟩, ⟨z_11.t.id, z_11.t.age, z_11.t.proc, z_11.t.began, z_11.t.calls, z_11.t.ans, z_11.t.rd, z_11.t.wr, (z_11.t.marks ++ ([((n_65 : Nat) : Int) - 5] : List Int)), z_11.t.state⟩⟩ : TX))]) (F := [Res.row (.slice a_69 1 1) 3 1 1 (([((n_65 : Nat) : Int) - 5] : List Int).map (Value.int .i64)), bk b_13 31 [iv z_11.t.id, iv z_11.t.age, iv z_11.t.proc, iv z_11.t.began, .slice z_11.x.a0 z_11.t.calls.length z_11.x.c0, .slice z_11.x.a1 z_11.t.ans.length z_11.x.c1, .slice z_11.x.a2 z_11.t.rd.length z_11.x.c2, .slice z_11.x.a3 z_11.t.wr.length z_11.x.c3, .slice a_72 ((z_11.t.marks ++ ([((n_65 : Nat) : Int) - 5] : List Int)).length) c_73, iv z_11.t.state], bk b_1 31 [iv z_11.t.id, iv z_11.t.age, iv z_11.t.proc, iv z_11.t.began, .slice z_11.x.a0 z_11.t.calls.length z_11.x.c0, .slice z_11.x.a1 z_11.t.ans.length z_11.x.c1, .slice z_11.x.a2 z_11.t.rd.length z_11.x.c2, .slice z_11.x.a3 z_11.t.wr.length z_11.x.c3, .slice a_72 ((z_11.t.marks ++ ([((n_65 : Nat) : Int) - 5] : List Int)).length) c_73, iv z_11.t.state]]) rfl).symm <| jR (.inl rfl) rfl (je (jX 4 (vs := [iv z_11.t.id, iv z_11.t.age, iv z_11.t.proc, iv z_11.t.began, .slice z_11.x.a0 z_11.t.calls.length z_11.x.c0, .slice z_11.x.a1 z_11.t.ans.length z_11.x.c1, .slice z_11.x.a2 z_11.t.rd.length z_11.x.c2, .slice z_11.x.a3 z_11.t.wr.length z_11.x.c3, .slice a_72 ((z_11.t.marks ++ ([((n_65 : Nat) : Int) - 5] : List Int)).length) c_73, iv z_11.t.state]) rfl rfl kz kq rfl rfl) ⟨_, rfl⟩) (tS 2 _) ?_
    exact ⟨qp_62, qs_63, (⟨⟨z_11.x.a0, z_11.x.c0, z_11.x.a1, z_11.x.c1, z_11.x.a2, z_11.x.c2, z_11.x.a3, z_11.x.c3, a_72, c_73⟩, ⟨z_11.t.id, z_11.t.age, z_11.t.proc, z_11.t.began, z_11.t.calls, z_11.t.ans, z_11.t.rd, z_11.t.wr, (z_11.t.marks ++ ([((n_65 : Nat) : Int) - 5] : List Int)), z_11.t.state⟩⟩ : TX), by omega, ⟨hAc, (by dsimp only; (try simp only [List.length_set, List.length_append, List.length_cons, List.length_nil]); omega), hAp, (by dsimp only; (try simp only [List.length_set, List.length_append, List.length_cons, List.length_nil]); omega), (by dsimp only; (try simp only [List.length_set, List.length_append, List.length_cons, List.length_nil]); omega), (by dsimp only; (try simp only [List.length_set, List.length_append, List.length_cons, List.length_nil]); omega), (by dsimp only; (try simp only [List.length_set, List.length_append, List.length_cons, List.length_nil]); omega)⟩, rfl, rfl⟩
  refine jP (cB (dF h_55)) <| jC <| jE <| jA (jw rfl rfl) <| jA (jG (v := .bool (decide (((n_17 : Nat) : Int) = 4))) rfl) <| jD <| jB ?_
  by_cases h_74 : ((n_17 : Nat) : Int) = 4
  · refine jO (cB (dT h_74)) <| jC <| jE <| jA (jJ fo31_5 rfl) <| jK (jV 6 (v := .slice z_11.x.a1 z_11.t.ans.length z_11.x.c1) rfl rfl gh rfl) <| jA (jp gN rfl) <| jA (ke rfl rfl) <| jD <| jB ?_
    by_cases h_75 : 0 < ((z_11.t.ans.length : Nat) : Int)
    · refine jO (cB (dT h_75)) <| jE <| jA (jJ fo31_5 rfl) <| jK (jV 6 (v := .slice z_11.x.a1 z_11.t.ans.length z_11.x.c1) rfl rfl gh rfl) ?_
      refine kc fun hst => ?_
      obtain ⟨hr_76, hr_76b, -⟩ := row_some 2 rfl (by omega) hst
      refine jA (jl (i := 0) gN kr hr_76 hr_76b rfl rfl (by omega)) <| jA (kD fo45_1 hr_76 rfl) ?_
      refine jH rfl (kU 2 (vs := [iv 7]) (cs' := (z_11.t.ans.set 0 (⟨(z_11.t.ans.getD 0 a0_).code, 7, (z_11.t.ans.getD 0 a0_).text⟩ : AN)).flatMap encA) rfl rfl rfl rfl kt rfl rfl (by decide) (by rw [flat_length encA_len]; (try rw [List.length_set]); omega) (flat_set1 encA_len a0_ (f := 1) (y := (⟨(z_11.t.ans.getD 0 a0_).code, 7, (z_11.t.ans.getD 0 a0_).text⟩ : AN)) (by omega) (by decide) rfl)) ?_
      rintro _ _ rfl
      refine jD <| jk <| jB <| jC <| jE <| jK (jX 6 (vs := (xc z_11)) rfl rfl kz kq rfl rfl) ?_
      refine jH rfl (jT 7 (vs := (xc z_11)) (cs' := (xc z_11)) rfl rfl rfl rfl kq rfl rfl (lb rfl) rfl) ?_
      rintro _ _ rfl
      refine jD <| jB <| jL <| kO (L' := [cb qb qa qc ql qp_14 qs_15, Res.row (.slice z_11.x.a0 z_11.t.calls.length z_11.x.c0) 51 6 z_11.t.calls.length (z_11.t.calls.flatMap encK), Res.row (.slice z_11.x.a1 ((z_11.t.ans.set 0 (⟨(z_11.t.ans.getD 0 a0_).code, 7, (z_11.t.ans.getD 0 a0_).text⟩ : AN)).length) z_11.x.c1) 45 3 ((z_11.t.ans.set 0 (⟨(z_11.t.ans.getD 0 a0_).code, 7, (z_11.t.ans.getD 0 a0_).text⟩ : AN)).length) ((z_11.t.ans.set 0 (⟨(z_11.t.ans.getD 0 a0_).code, 7, (z_11.t.ans.getD 0 a0_).text⟩ : AN)).flatMap encA), rS z_11.x.a2 z_11.x.c2 z_11.t.rd, rS z_11.x.a3 z_11.x.c3 z_11.t.wr, rI z_11.x.a4 z_11.x.c4 z_11.t.marks, bk b_13 31 (xc z_11), bk b_1 31 (xc z_11)]) (fun w hw => hw.eqL (by simp only [List.length_set] <;> rfl)) <| kO (L' := [Res.rows (rdsX (⟨⟨z_11.x.a0, z_11.x.c0, z_11.x.a1, z_11.x.c1, z_11.x.a2, z_11.x.c2, z_11.x.a3, z_11.x.c3, z_11.x.a4, z_11.x.c4⟩, ⟨z_11.t.id, z_11.t.age, z_11.t.proc, z_11.t.began, z_11.t.calls, z_11.t.ans.set 0 (⟨(z_11.t.ans.getD 0 a0_).code, 7, (z_11.t.ans.getD 0 a0_).text⟩ : AN), z_11.t.rd, z_11.t.wr, z_11.t.marks, z_11.t.state⟩⟩ : TX)), cb qb qa qc ql qp_14 qs_15, bk b_13 31 (xc z_11), bk b_1 31 (xc z_11)]) (fun w hw => hw.closeR (A := rdsX (⟨⟨z_11.x.a0, z_11.x.c0, z_11.x.a1, z_11.x.c1, z_11.x.a2, z_11.x.c2, z_11.x.a3, z_11.x.c3, z_11.x.a4, z_11.x.c4⟩, ⟨z_11.t.id, z_11.t.age, z_11.t.proc, z_11.t.began, z_11.t.calls, z_11.t.ans.set 0 (⟨(z_11.t.ans.getD 0 a0_).code, 7, (z_11.t.ans.getD 0 a0_).text⟩ : AN), z_11.t.rd, z_11.t.wr, z_11.t.marks, z_11.t.state⟩⟩ : TX)) [1, 1, 1, 1, 1] rfl) <| kR (pick_perm [1, 0] (A := [cb qb qa qc ql qp_14 qs_15, Res.rows (rdsX (⟨⟨z_11.x.a0, z_11.x.c0, z_11.x.a1, z_11.x.c1, z_11.x.a2, z_11.x.c2, z_11.x.a3, z_11.x.c3, z_11.x.a4, z_11.x.c4⟩, ⟨z_11.t.id, z_11.t.age, z_11.t.proc, z_11.t.began, z_11.t.calls, z_11.t.ans.set 0 (⟨(z_11.t.ans.getD 0 a0_).code, 7, (z_11.t.ans.getD 0 a0_).text⟩ : AN), z_11.t.rd, z_11.t.wr, z_11.t.marks, z_11.t.state⟩⟩ : TX))]) (F := [bk b_13 31 (xc z_11), bk b_1 31 (xc z_11)]) rfl).symm <| jR (.inl rfl) rfl (je (jX 3 (vs := (xc z_11)) rfl rfl kz kq rfl rfl) ⟨_, rfl⟩) (tS 2 _) ?_
      exact ⟨qp_14, qs_15, (⟨⟨z_11.x.a0, z_11.x.c0, z_11.x.a1, z_11.x.c1, z_11.x.a2, z_11.x.c2, z_11.x.a3, z_11.x.c3, z_11.x.a4, z_11.x.c4⟩, ⟨z_11.t.id, z_11.t.age, z_11.t.proc, z_11.t.began, z_11.t.calls, z_11.t.ans.set 0 (⟨(z_11.t.ans.getD 0 a0_).code, 7, (z_11.t.ans.getD 0 a0_).text⟩ : AN), z_11.t.rd, z_11.t.wr, z_11.t.marks, z_11.t.state⟩⟩ : TX), by omega, ⟨hAc, (by dsimp only; (try simp only [List.length_set, List.length_append, List.length_cons, List.length_nil]); omega), hAp, (by dsimp only; (try simp only [List.length_set, List.length_append, List.length_cons, List.length_nil]); omega), (by dsimp only; (try simp only [List.length_set, List.length_append, List.length_cons, List.length_nil]); omega), (by dsimp only; (try simp only [List.length_set, List.length_append, List.length_cons, List.length_nil]); omega), (by dsimp only; (try simp only [List.length_set, List.length_append, List.length_cons, List.length_nil]); omega)⟩, (by simp only [List.length_set, List.length_append, List.length_cons, List.length_nil]), rfl⟩
    refine jP (cB (dF h_75)) <| jU <| jk <| jB <| jC <| jE <| jK (jX 6 (vs := (xc z_11)) rfl rfl kz kq rfl rfl) ?_
    refine jH rfl (jT 7 (vs := (xc z_11)) (cs' := (xc z_11)) rfl rfl rfl rfl kq rfl rfl (lb rfl) rfl) ?_
    rintro _ _ rfl
    refine jD <| jB <| jL <| kO (L' := [Res.rows (rdsX (⟨⟨z_11.x.a0, z_11.x.c0, z_11.x.a1, z_11.x.c1, z_11.x.a2, z_11.x.c2, z_11.x.a3, z_11.x.c3, z_11.x.a4, z_11.x.c4⟩, ⟨z_11.t.id, z_11.t.age, z_11.t.proc, z_11.t.began, z_11.t.calls, z_11.t.ans, z_11.t.rd, z_11.t.wr, z_11.t.marks, z_11.t.state⟩⟩ : TX)), cb qb qa qc ql qp_14 qs_15, bk b_13 31 (xc z_11), bk b_1 31 (xc z_11)]) (fun w hw => hw.closeR (A := rdsX (⟨⟨z_11.x.a0, z_11.x.c0, z_11.x.a1, z_11.x.c1, z_11.x.a2, z_11.x.c2, z_11.x.a3, z_11.x.c3, z_11.x.a4, z_11.x.c4⟩, ⟨z_11.t.id, z_11.t.age, z_11.t.proc, z_11.t.began, z_11.t.calls, z_11.t.ans, z_11.t.rd, z_11.t.wr, z_11.t.marks, z_11.t.state⟩⟩ : TX)) [1, 1, 1, 1, 1] rfl) <| kR (pick_perm [1, 0] (A := [cb qb qa qc ql qp_14 qs_15, Res.rows (rdsX (⟨⟨z_11.x.a0, z_11.x.c0, z_11.x.a1, z_11.x.c1, z_11.x.a2, z_11.x.c2, z_11.x.a3, z_11.x.c3, z_11.x.a4, z_11.x.c4⟩, ⟨z_11.t.id, z_11.t.age, z_11.t.proc, z_11.t.began, z_11.t.calls, z_11.t.ans, z_11.t.rd, z_11.t.wr, z_11.t.marks, z_11.t.state⟩⟩ : TX))]) (F := [bk b_13 31 (xc z_11), bk b_1 31 (xc z_11)]) rfl).symm <| jR (.inl rfl) rfl (je (jX 3 (vs := (xc z_11)) rfl rfl kz kq rfl rfl) ⟨_, rfl⟩) (tS 2 _) ?_
    exact ⟨qp_14, qs_15, (⟨⟨z_11.x.a0, z_11.x.c0, z_11.x.a1, z_11.x.c1, z_11.x.a2, z_11.x.c2, z_11.x.a3, z_11.x.c3, z_11.x.a4, z_11.x.c4⟩, ⟨z_11.t.id, z_11.t.age, z_11.t.proc, z_11.t.began, z_11.t.calls, z_11.t.ans, z_11.t.rd, z_11.t.wr, z_11.t.marks, z_11.t.state⟩⟩ : TX), by omega, ⟨hAc, (by dsimp only; (try simp only [List.length_set, List.length_append, List.length_cons, List.length_nil]); omega), hAp, (by dsimp only; (try simp only [List.length_set, List.length_append, List.length_cons, List.length_nil]); omega), (by dsimp only; (try simp only [List.length_set, List.length_append, List.length_cons, List.length_nil]); omega), (by dsimp only; (try simp only [List.length_set, List.length_append, List.length_cons, List.length_nil]); omega), (by dsimp only; (try simp only [List.length_set, List.length_append, List.length_cons, List.length_nil]); omega)⟩, rfl, rfl⟩
  refine jP (cB (dF h_74)) <| jU <| jk <| jB <| jC <| jE <| jK (jX 6 (vs := (xc z_11)) rfl rfl kz kq rfl rfl) ?_
  refine jH rfl (jT 7 (vs := (xc z_11)) (cs' := (xc z_11)) rfl rfl rfl rfl kq rfl rfl (lb rfl) rfl) ?_
  rintro _ _ rfl
  refine jD <| jB <| jL <| kO (L' := [Res.rows (rdsX (⟨⟨z_11.x.a0, z_11.x.c0, z_11.x.a1, z_11.x.c1, z_11.x.a2, z_11.x.c2, z_11.x.a3, z_11.x.c3, z_11.x.a4, z_11.x.c4⟩, ⟨z_11.t.id, z_11.t.age, z_11.t.proc, z_11.t.began, z_11.t.calls, z_11.t.ans, z_11.t.rd, z_11.t.wr, z_11.t.marks, z_11.t.state⟩⟩ : TX)), cb qb qa qc ql qp_14 qs_15, bk b_13 31 (xc z_11), bk b_1 31 (xc z_11)]) (fun w hw => hw.closeR (A := rdsX (⟨⟨z_11.x.a0, z_11.x.c0, z_11.x.a1, z_11.x.c1, z_11.x.a2, z_11.x.c2, z_11.x.a3, z_11.x.c3, z_11.x.a4, z_11.x.c4⟩, ⟨z_11.t.id, z_11.t.age, z_11.t.proc, z_11.t.began, z_11.t.calls, z_11.t.ans, z_11.t.rd, z_11.t.wr, z_11.t.marks, z_11.t.state⟩⟩ : TX)) [1, 1, 1, 1, 1] rfl) <| kR (pick_perm [1, 0] (A := [cb qb qa qc ql qp_14 qs_15, Res.rows (rdsX (⟨⟨z_11.x.a0, z_11.x.c0, z_11.x.a1, z_11.x.c1, z_11.x.a2, z_11.x.c2, z_11.x.a3, z_11.x.c3, z_11.x.a4, z_11.x.c4⟩, ⟨z_11.t.id, z_11.t.age, z_11.t.proc, z_11.t.began, z_11.t.calls, z_11.t.ans, z_11.t.rd, z_11.t.wr, z_11.t.marks, z_11.t.state⟩⟩ : TX))]) (F := [bk b_13 31 (xc z_11), bk b_1 31 (xc z_11)]) rfl).symm <| jR (.inl rfl) rfl (je (jX 3 (vs := (xc z_11)) rfl rfl kz kq rfl rfl) ⟨_, rfl⟩) (tS 2 _) ?_
  exact ⟨qp_14, qs_15, (⟨⟨z_11.x.a0, z_11.x.c0, z_11.x.a1, z_11.x.c1, z_11.x.a2, z_11.x.c2, z_11.x.a3, z_11.x.c3, z_11.x.a4, z_11.x.c4⟩, ⟨z_11.t.id, z_11.t.age, z_11.t.proc, z_11.t.began, z_11.t.calls, z_11.t.ans, z_11.t.rd, z_11.t.wr, z_11.t.marks, z_11.t.state⟩⟩ : TX), by omega, ⟨hAc, (by dsimp only; (try simp only [List.length_set, List.length_append, List.length_cons, List.length_nil]); omega), hAp, (by dsimp only; (try simp only [List.length_set, List.length_append, List.length_cons, List.length_nil]); omega), (by dsimp only; (try simp only [List.length_set, List.length_append, List.length_cons, List.length_nil]); omega), (by dsimp only; (try simp only [List.length_set, List.length_append, List.length_cons, List.length_nil]); omega), (by dsimp only; (try simp only [List.length_set, List.length_append, List.length_cons, List.length_nil]); omega)⟩, rfl, rfl⟩

theorem D_near16 (qb : Nat) (qa : Option Addr) (qc : Nat) (ql : Str) (qp : Nat) (qs : Int) (sa : Option Addr) (sc : Nat) (s : List Cell) (hs : s.length ≤ 1000000000) (hql : ql.length ≤ 1048576) (hqp : qp ≤ ql.length)  (hO : okC' 10935 1048576 s) :
    Ct Tryz.prog 147 [.pointer (some ⟨qb, 0, none⟩), .slice sa s.length sc] [cb qb qa qc ql qp qs] (fun w => seesC w qa qc ql [cb qb qa qc ql qp qs] ∧ (Sees w (.slice sa s.length sc) 2 s.length (s.flatMap encC) ∧ ∀ b, (Value.slice sa s.length sc).ownBlock = some b → b ≠ qb)) (fun v A' => ∃ qp' qs' r0a r0c r0, qp' ≤ ql.length ∧ (okC' 10938 1048576 r0) ∧ v = .slice r0a r0.length r0c ∧ A' = cb qb qa qc ql qp' qs' :: [rC r0a r0c r0]) := by
  have hO1 := hO.1
  refine Ct.intro Tryz.func147 rfl Tryz.ntmps147 (lb rfl) fun w0 hpre => ?_
  have hs_qa : Sees w0 _ _ _ _ := hpre.1.1
  have hs_sa : Sees w0 _ _ _ _ := hpre.2.1
  refine jC <| jE <| jA (jG (v := .slice none 0 0) rfl) <| jD <| jB <| jC <| jE ?_
  refine jH rfl (kJ (ps := []) (cur := #[]) gC gJ gn rfl (by kernel_rfl) (by decide) (by decide)) ?_
  rintro _ _ ⟨a_1, rfl, rfl⟩
  refine jA (jF (v := .slice sa s.length sc) rfl) ?_
  refine jH rfl (kM 0 (q := s.length) (news := s.flatMap encC) (n' := s.length) (cs' := s.flatMap encC) rfl gC gC gq rfl (by' := 32) rfl rfl rfl rfl rfl (fun w hw => Src.sees (hw.seeOut_ hs_sa (notin_bk hpre.2.2)) (oneC _)) (by (try simp only [LE]); omega) (by (try simp only [LE]); omega) (by (try simp only [List.length_take, List.length_drop]); first | rfl | omega) rfl) ?_
  rintro _ _ ⟨a_2, c_3, rfl, rfl⟩
  refine jA (jG (v := .slice a_2 s.length c_3) rfl) <| jD <| jB <| jC <| jC <| jE <| jA (jG (v := iv 0) rfl) <| jD <| jB <| jg ?_
  refine kC (fun k_ e_ L_ => ∃ i_ : Nat, ∃ p_q : Nat, ∃ s_q : Int, ∃ o_a : Option Addr, ∃ o_c : Nat, ∃ o_ : List Cell, (p_q ≤ ql.length) ∧ (i_ ≤ 3) ∧ (okC' (10935 + i_) 1048576 o_) ∧ e_ 0 = .pointer (some ⟨qb, 0, none⟩) ∧ e_ 1 = .slice sa s.length sc ∧ e_ 4 = .slice none 0 0 ∧ e_ 5 = .slice o_a o_.length o_c ∧ e_ 6 = nv i_ ∧ L_ = [rC o_a o_c o_, cb qb qa qc ql p_q s_q] ∧ k_ = 4 - i_) _ ⟨0, qp, qs, a_2, c_3, s, (by omega), (by omega), (hO.mono (by omega)), rfl, rfl, rfl, rfl, rfl, rfl, rfl⟩ ?_
  rintro _ e_4 _ ⟨i_, p_q, s_q, o_a, o_c, o_, hpq_, hi, hP, he_5, he_6, he_7, he_8, he_9, rfl, rfl⟩
  have hP1 := hP.1
  refine jC <| jC <| jE <| jA (jF (v := nv i_) he_9) <| jA (jF (v := .pointer (some ⟨qb, 0, none⟩)) he_5) ?_
  refine jH rfl (jM [1] Tryz.call33 rfl (D_below qb qa qc ql p_q s_q (by omega) (by omega) 3 (by omega)) rfl (fun w hw => ⟨hw.seeOut_ hs_qa (hpre.1.2), hw.apart hs_qa (hpre.1.2) (by simp)⟩)) ?_
  rintro _ _ ⟨_, ⟨qp_10, qs_11, n_13, fq_12, f_14, rfl, rfl⟩, rfl⟩
  refine jA (ji (c := ((1 + n_13 : Nat) : Int)) rfl rfl (wr (by omega))) <| jA (jo rfl rfl) <| jD <| jB ?_
  by_cases h_16 : ((i_ : Nat) : Int) < ((1 + n_13 : Nat) : Int)
  · refine jO (cB (dT h_16)) <| jU <| jB <| jC <| jg <| jC <| jE <| jA (jF (v := .slice sa s.length sc) he_6) <| jA (jp gC rfl) <| jA (ke rfl rfl) ?_
    refine jA (jF (v := .bool (decide (0 < ((s.length : Nat) : Int)))) rfl) ?_
    by_cases h_17 : 0 < ((s.length : Nat) : Int)
    · refine jZ rfl rfl rfl (cB (dT h_17)) (ja (jf (jF (v := .pointer (some ⟨qb, 0, none⟩)) he_5))) ?_
      rintro _ _ ⟨rfl, rfl⟩
      refine jZ rfl rfl rfl (cB (dT h_17)) (jM [0] Tryz.call146 rfl (D_once qb qa qc ql qp_10 qs_11 (by omega) (by omega) 2 (by omega)) rfl (fun w hw => ⟨hw.seeOut_ hs_qa (hpre.1.2), hw.apart hs_qa (hpre.1.2) (by simp)⟩)) ?_
      rintro _ _ ⟨_, ⟨qp_18, qs_19, b_21, fq_20, rfl, rfl⟩, rfl⟩
      refine jA (kG (v := .bool b_21) (cB (dT h_17)) rfl) <| jD <| jB ?_
      rcases Bool.eq_false_or_eq_true (b_21) with h_23 | h_23
      · refine jO (cB h_23) <| jr [] 13 mixed (by simp) <| jI 0 rfl (jF (v := .slice o_a o_.length o_c) he_8) <| jI 1 rfl (jF (v := .slice sa s.length sc) he_6) <| jI 2 rfl (jF (v := .pointer (some ⟨qb, 0, none⟩)) he_5) <| jI 3 rfl (jF (v := .slice sa s.length sc) he_6) <| jI 4 rfl (jp gC rfl) <| jI 9 rfl (jF (v := .pointer (some ⟨qb, 0, none⟩)) he_5) ?_
        refine kX (i := 5) (j := 10) (by kernel_rfl) ?_ ?_
        · refine jY rfl rfl (jM [0] Tryz.call33 rfl (D_below qb qa qc ql qp_18 qs_19 (by omega) (by omega) ((s.length : Nat) : Int) (by omega)) rfl (fun w hw => ⟨hw.seeOut_ hs_qa (hpre.1.2), hw.apart hs_qa (hpre.1.2) (by simp)⟩)) ?_
          rintro _ _ ⟨_, ⟨qp_37, qs_38, n_40, fq_39, f_41, rfl, rfl⟩, rfl⟩
          refine ⟨(fun _ h => by cases h), ?_⟩
          have hki_43 := (hO.2 _ (getD_mem (d := c0) (show n_40 < s.length by omega))).1
          obtain ⟨hr_44, hr_44b, -⟩ := sees_some hs_sa (by omega)
          refine jI 6 rfl (jl (i := n_40) gC gJ hr_44 hr_44b rfl rfl (by omega)) <| jI 7 rfl (kD fo167_0 hr_44 rfl) <| jh 8 rfl (kK (v := str ((s.getD n_40 c0).1)) hs_sa (notin_bk hpre.2.2) rfl kv (atC1 (by omega))) <| jQ (i := 10) ?_
          refine jY rfl rfl (kJ (ps := [(0, str []), (1, str [49]), (2, str [50]), (3, str [51]), (4, str [45, 54, 49])]) (cur := #[str [], str [49], str [50], str [51], str [45, 54, 49]]) ks kw gQ rfl (by kernel_rfl) (by decide) (by decide)) ?_
          rintro _ _ ⟨a_46, rfl, rfl⟩
          refine ⟨(fun _ h => by cases h), ?_⟩
          refine jQ (i := 11) ?_
          refine jY rfl rfl (jM [1, 0] Tryz.call206 rfl (D_pick qb qa qc ql qp_37 qs_38 a_46 5 ([[], [49], [50], [51], [45, 54, 49]] : List Str) (by omega) (by omega) (by simp) (by simp)) rfl (fun w hw => ⟨hw.seeOut_ hs_qa (hpre.1.2), hw.apart hs_qa (hpre.1.2) (by simp)⟩)) ?_
          rintro _ _ ⟨_, ⟨qp_53, qs_54, u_56, fq_55, f_57, rfl, rfl⟩, rfl⟩
          have hlu_56 : u_56.length ≤ 64 := by have hx_ := f_57; simp only [List.mem_cons, List.not_mem_nil, or_false] at hx_; rcases hx_ with hx_ | hx_ | hx_ | hx_ | hx_ <;> first | (rw [hx_]; decide) | (rw [hx_]; omega)
          refine ⟨(fun _ h => by cases h), ?_⟩
          refine jQ (i := 12) ?_
          refine jY rfl rfl (jM [] Tryz.call205 rfl (C_sPutKey o_a o_c o_ ((s.getD n_40 c0).1) u_56 (by omega) (by omega)) rfl (fun w hw => hw.see (i := 1) rfl)) ?_
          rintro _ _ ⟨_, ⟨a_61, c_62, rfl, rfl⟩, rfl⟩
          refine ⟨(fun _ h => by cases h), ?_⟩
          refine jI 13 rfl (jG (v := .slice a_61 ((putKey o_ ((s.getD n_40 c0).1) u_56).length) c_62) rfl) <| kI (by kernel_rfl) <| jk <| jB <| jE <| jA (jF (v := nv i_) he_9) <| jA (ji (c := ((i_ + 1 : Nat) : Int)) rfl rfl (wr (by omega))) <| jA (jG (v := iv ((i_ + 1 : Nat) : Int)) rfl) <| jD <| kH [0, 0] (A := [rC a_61 c_62 (putKey o_ ((s.getD n_40 c0).1) u_56), cb qb qa qc ql qp_53 qs_54]) rfl ?_
          refine ju (4 - (i_ + 1)) (by omega) ⟨(i_ + 1), qp_53, qs_54, a_61, c_62, (putKey o_ ((s.getD n_40 c0).1) u_56), (by omega), (by omega), (okC'.put hP _ _ (by omega) (by omega)), he_5, he_6, he_7, rfl, rfl, rfl, rfl⟩
        refine jY rfl rfl (kJ (ps := [(0, str []), (1, str [49]), (2, str [50]), (3, str [51]), (4, str [45, 54, 49])]) (cur := #[str [], str [49], str [50], str [51], str [45, 54, 49]]) ks kw gQ rfl (by kernel_rfl) (by decide) (by decide)) ?_
        rintro _ _ ⟨a_63, rfl, rfl⟩
        refine ⟨(fun _ h => by cases h), ?_⟩
        refine jQ (i := 5) ?_
        refine jY rfl rfl (jM [1] Tryz.call33 rfl (D_below qb qa qc ql qp_18 qs_19 (by omega) (by omega) ((s.length : Nat) : Int) (by omega)) rfl (fun w hw => ⟨hw.seeOut_ hs_qa (hpre.1.2), hw.apart hs_qa (hpre.1.2) (by simp)⟩)) ?_
        rintro _ _ ⟨_, ⟨qp_70, qs_71, n_73, fq_72, f_74, rfl, rfl⟩, rfl⟩
        refine ⟨(fun _ h => by cases h), ?_⟩
        have hki_76 := (hO.2 _ (getD_mem (d := c0) (show n_73 < s.length by omega))).1
        obtain ⟨hr_77, hr_77b, -⟩ := sees_some hs_sa (by omega)
        refine jI 6 rfl (jl (i := n_73) gC gJ hr_77 hr_77b rfl rfl (by omega)) <| jI 7 rfl (kD fo167_0 hr_77 rfl) <| jh 8 rfl (kK (v := str ((s.getD n_73 c0).1)) hs_sa (notin_bk hpre.2.2) rfl kv (atC1 (by omega))) <| jQ (i := 11) ?_
        refine jY rfl rfl (jM [0, 0] Tryz.call206 rfl (D_pick qb qa qc ql qp_70 qs_71 a_63 5 ([[], [49], [50], [51], [45, 54, 49]] : List Str) (by omega) (by omega) (by simp) (by simp)) rfl (fun w hw => ⟨hw.seeOut_ hs_qa (hpre.1.2), hw.apart hs_qa (hpre.1.2) (by simp)⟩)) ?_
        rintro _ _ ⟨_, ⟨qp_84, qs_85, u_87, fq_86, f_88, rfl, rfl⟩, rfl⟩
        have hlu_87 : u_87.length ≤ 64 := by have hx_ := f_88; simp only [List.mem_cons, List.not_mem_nil, or_false] at hx_; rcases hx_ with hx_ | hx_ | hx_ | hx_ | hx_ <;> first | (rw [hx_]; decide) | (rw [hx_]; omega)
        refine ⟨(fun _ h => by cases h), ?_⟩
        refine jQ (i := 12) ?_
        refine jY rfl rfl (jM [] Tryz.call205 rfl (C_sPutKey o_a o_c o_ ((s.getD n_73 c0).1) u_87 (by omega) (by omega)) rfl (fun w hw => hw.see (i := 1) rfl)) ?_
        rintro _ _ ⟨_, ⟨a_92, c_93, rfl, rfl⟩, rfl⟩
        refine ⟨(fun _ h => by cases h), ?_⟩
        refine jI 13 rfl (jG (v := .slice a_92 ((putKey o_ ((s.getD n_73 c0).1) u_87).length) c_93) rfl) <| kI (by kernel_rfl) <| jk <| jB <| jE <| jA (jF (v := nv i_) he_9) <| jA (ji (c := ((i_ + 1 : Nat) : Int)) rfl rfl (wr (by omega))) <| jA (jG (v := iv ((i_ + 1 : Nat) : Int)) rfl) <| jD <| kH [0, 0] (A := [rC a_92 c_93 (putKey o_ ((s.getD n_73 c0).1) u_87), cb qb qa qc ql qp_84 qs_85]) rfl ?_
        refine ju (4 - (i_ + 1)) (by omega) ⟨(i_ + 1), qp_84, qs_85, a_92, c_93, (putKey o_ ((s.getD n_73 c0).1) u_87), (by omega), (by omega), (okC'.put hP _ _ (by omega) (by omega)), he_5, he_6, he_7, rfl, rfl, rfl, rfl⟩
      refine jP (cB h_23) <| jE <| jA (jF (v := .slice o_a o_.length o_c) he_8) <| jA (jF (v := .pointer (some ⟨qb, 0, none⟩)) he_5) ?_
      refine jH rfl (kJ (ps := [(0, str [110, 47, 120]), (1, str [110, 47, 113]), (2, str [105, 47, 49, 47, 115]), (3, str [105, 47, 50, 47, 98, 47, 48]), (4, str [112, 47, 49, 47, 116]), (5, str [114, 47, 50, 47, 115]), (6, str [103, 47, 49, 47, 116]), (7, str [116, 47, 49]), (8, str [109, 47, 49, 47, 48]), (9, str [100, 47, 110]), (10, str [99, 47, 99, 108, 111, 99, 107]), (11, str [99, 47, 102, 105, 108, 101])]) (cur := #[str [110, 47, 120], str [110, 47, 113], str [105, 47, 49, 47, 115], str [105, 47, 50, 47, 98, 47, 48], str [112, 47, 49, 47, 116], str [114, 47, 50, 47, 115], str [103, 47, 49, 47, 116], str [116, 47, 49], str [109, 47, 49, 47, 48], str [100, 47, 110], str [99, 47, 99, 108, 111, 99, 107], str [99, 47, 102, 105, 108, 101]]) ks kw gQ rfl (by kernel_rfl) (by decide) (by decide)) ?_
      rintro _ _ ⟨a_94, rfl, rfl⟩
      refine jH rfl (jM [1, 0] Tryz.call206 rfl (D_pick qb qa qc ql qp_18 qs_19 a_94 12 ([[110, 47, 120], [110, 47, 113], [105, 47, 49, 47, 115], [105, 47, 50, 47, 98, 47, 48], [112, 47, 49, 47, 116], [114, 47, 50, 47, 115], [103, 47, 49, 47, 116], [116, 47, 49], [109, 47, 49, 47, 48], [100, 47, 110], [99, 47, 99, 108, 111, 99, 107], [99, 47, 102, 105, 108, 101]] : List Str) (by omega) (by omega) (by simp) (by simp)) rfl (fun w hw => ⟨hw.seeOut_ hs_qa (hpre.1.2), hw.apart hs_qa (hpre.1.2) (by simp)⟩)) ?_
      rintro _ _ ⟨_, ⟨qp_95, qs_96, u_98, fq_97, f_99, rfl, rfl⟩, rfl⟩
      have hlu_98 : u_98.length ≤ 64 := by have hx_ := f_99; simp only [List.mem_cons, List.not_mem_nil, or_false] at hx_; rcases hx_ with hx_ | hx_ | hx_ | hx_ | hx_ | hx_ | hx_ | hx_ | hx_ | hx_ | hx_ | hx_ <;> first | (rw [hx_]; decide) | (rw [hx_]; omega)
      refine jA (jF (v := .pointer (some ⟨qb, 0, none⟩)) he_5) ?_
      refine jH rfl (kJ (ps := [(0, str [49]), (1, str [50]), (2, str [53]), (3, str [45, 54, 50])]) (cur := #[str [49], str [50], str [53], str [45, 54, 50]]) ks kw gQ rfl (by kernel_rfl) (by decide) (by decide)) ?_
      rintro _ _ ⟨a_101, rfl, rfl⟩
      refine jH rfl (jM [1, 0] Tryz.call206 rfl (D_pick qb qa qc ql qp_95 qs_96 a_101 4 ([[49], [50], [53], [45, 54, 50]] : List Str) (by omega) (by omega) (by simp) (by simp)) rfl (fun w hw => ⟨hw.seeOut_ hs_qa (hpre.1.2), hw.apart hs_qa (hpre.1.2) (by simp)⟩)) ?_
      rintro _ _ ⟨_, ⟨qp_102, qs_103, u_105, fq_104, f_106, rfl, rfl⟩, rfl⟩
      have hlu_105 : u_105.length ≤ 64 := by have hx_ := f_106; simp only [List.mem_cons, List.not_mem_nil, or_false] at hx_; rcases hx_ with hx_ | hx_ | hx_ | hx_ <;> first | (rw [hx_]; decide) | (rw [hx_]; omega)
      refine jH rfl (jM [] Tryz.call205 rfl (C_sPutKey o_a o_c o_ u_98 u_105 (by omega) (by omega)) rfl (fun w hw => hw.see (i := 1) rfl)) ?_
      rintro _ _ ⟨_, ⟨a_108, c_109, rfl, rfl⟩, rfl⟩
      refine jA (jG (v := .slice a_108 ((putKey o_ u_98 u_105).length) c_109) rfl) <| jD <| jk <| jB <| jE <| jA (jF (v := nv i_) he_9) <| jA (ji (c := ((i_ + 1 : Nat) : Int)) rfl rfl (wr (by omega))) <| jA (jG (v := iv ((i_ + 1 : Nat) : Int)) rfl) <| jD <| kH [0, 0] (A := [rC a_108 c_109 (putKey o_ u_98 u_105), cb qb qa qc ql qp_102 qs_103]) rfl ?_
      refine ju (4 - (i_ + 1)) (by omega) ⟨(i_ + 1), qp_102, qs_103, a_108, c_109, (putKey o_ u_98 u_105), (by omega), (by omega), (okC'.put hP _ _ (by omega) (by omega)), he_5, he_6, he_7, rfl, rfl, rfl, rfl⟩
    refine jS (b := false) rfl rfl rfl (cB (dF h_17)) <| jS (b := false) rfl rfl rfl (cB (dF h_17)) <| jA (jv (v := .bool false) (cB (dF h_17)) rfl) <| jD <| jB <| jP (cB rfl) <| jE <| jA (jF (v := .slice o_a o_.length o_c) he_8) <| jA (jF (v := .pointer (some ⟨qb, 0, none⟩)) he_5) ?_
    refine jH rfl (kJ (ps := [(0, str [110, 47, 120]), (1, str [110, 47, 113]), (2, str [105, 47, 49, 47, 115]), (3, str [105, 47, 50, 47, 98, 47, 48]), (4, str [112, 47, 49, 47, 116]), (5, str [114, 47, 50, 47, 115]), (6, str [103, 47, 49, 47, 116]), (7, str [116, 47, 49]), (8, str [109, 47, 49, 47, 48]), (9, str [100, 47, 110]), (10, str [99, 47, 99, 108, 111, 99, 107]), (11, str [99, 47, 102, 105, 108, 101])]) (cur := #[str [110, 47, 120], str [110, 47, 113], str [105, 47, 49, 47, 115], str [105, 47, 50, 47, 98, 47, 48], str [112, 47, 49, 47, 116], str [114, 47, 50, 47, 115], str [103, 47, 49, 47, 116], str [116, 47, 49], str [109, 47, 49, 47, 48], str [100, 47, 110], str [99, 47, 99, 108, 111, 99, 107], str [99, 47, 102, 105, 108, 101]]) ks kw gQ rfl (by kernel_rfl) (by decide) (by decide)) ?_
    rintro _ _ ⟨a_110, rfl, rfl⟩
    refine jH rfl (jM [1, 0] Tryz.call206 rfl (D_pick qb qa qc ql qp_10 qs_11 a_110 12 ([[110, 47, 120], [110, 47, 113], [105, 47, 49, 47, 115], [105, 47, 50, 47, 98, 47, 48], [112, 47, 49, 47, 116], [114, 47, 50, 47, 115], [103, 47, 49, 47, 116], [116, 47, 49], [109, 47, 49, 47, 48], [100, 47, 110], [99, 47, 99, 108, 111, 99, 107], [99, 47, 102, 105, 108, 101]] : List Str) (by omega) (by omega) (by simp) (by simp)) rfl (fun w hw => ⟨hw.seeOut_ hs_qa (hpre.1.2), hw.apart hs_qa (hpre.1.2) (by simp)⟩)) ?_
    rintro _ _ ⟨_, ⟨qp_111, qs_112, u_114, fq_113, f_115, rfl, rfl⟩, rfl⟩
    have hlu_114 : u_114.length ≤ 64 := by have hx_ := f_115; simp only [List.mem_cons, List.not_mem_nil, or_false] at hx_; rcases hx_ with hx_ | hx_ | hx_ | hx_ | hx_ | hx_ | hx_ | hx_ | hx_ | hx_ | hx_ | hx_ <;> first | (rw [hx_]; decide) | (rw [hx_]; omega)
    refine jA (jF (v := .pointer (some ⟨qb, 0, none⟩)) he_5) ?_
    refine jH rfl (kJ (ps := [(0, str [49]), (1, str [50]), (2, str [53]), (3, str [45, 54, 50])]) (cur := #[str [49], str [50], str [53], str [45, 54, 50]]) ks kw gQ rfl (by kernel_rfl) (by decide) (by decide)) ?_
    rintro _ _ ⟨a_117, rfl, rfl⟩
    refine jH rfl (jM [1, 0] Tryz.call206 rfl (D_pick qb qa qc ql qp_111 qs_112 a_117 4 ([[49], [50], [53], [45, 54, 50]] : List Str) (by omega) (by omega) (by simp) (by simp)) rfl (fun w hw => ⟨hw.seeOut_ hs_qa (hpre.1.2), hw.apart hs_qa (hpre.1.2) (by simp)⟩)) ?_
    rintro _ _ ⟨_, ⟨qp_118, qs_119, u_121, fq_120, f_122, rfl, rfl⟩, rfl⟩
    have hlu_121 : u_121.length ≤ 64 := by have hx_ := f_122; simp only [List.mem_cons, List.not_mem_nil, or_false] at hx_; rcases hx_ with hx_ | hx_ | hx_ | hx_ <;> first | (rw [hx_]; decide) | (rw [hx_]; omega)
    refine jH rfl (jM [] Tryz.call205 rfl (C_sPutKey o_a o_c o_ u_114 u_121 (by omega) (by omega)) rfl (fun w hw => hw.see (i := 1) rfl)) ?_
    rintro _ _ ⟨_, ⟨a_124, c_125, rfl, rfl⟩, rfl⟩
    refine jA (jG (v := .slice a_124 ((putKey o_ u_114 u_121).length) c_125) rfl) <| jD <| jk <| jB <| jE <| jA (jF (v := nv i_) he_9) <| jA (ji (c := ((i_ + 1 : Nat) : Int)) rfl rfl (wr (by omega))) <| jA (jG (v := iv ((i_ + 1 : Nat) : Int)) rfl) <| jD <| kH [0, 0] (A := [rC a_124 c_125 (putKey o_ u_114 u_121), cb qb qa qc ql qp_118 qs_119]) rfl ?_
    refine ju (4 - (i_ + 1)) (by omega) ⟨(i_ + 1), qp_118, qs_119, a_124, c_125, (putKey o_ u_114 u_121), (by omega), (by omega), (okC'.put hP _ _ (by omega) (by omega)), he_5, he_6, he_7, rfl, rfl, rfl, rfl⟩
  refine jP (cB (dF h_16)) <| jz <| jj <| jj <| kA <| jB <| jC <| jE <| jA (jF (v := .slice o_a o_.length o_c) he_8) <| jA (jG (v := .slice o_a o_.length o_c) rfl) ?_
  refine jD <| jB <| jL <| jR (.inl rfl) rfl (jN (v := .slice o_a o_.length o_c) rfl) (List.Sublist.refl _) ?_
  exact ⟨qp_10, qs_11, o_a, o_c, o_, (by omega), (hP.mono (by omega)), rfl, rfl⟩

set_option maxRecDepth 4000 in
set_option maxHeartbeats 1000000 in
theorem D_case17 (pa : Option Addr) (pc : Nat) (p : Str) (hp : p.length ≤ 1048576) :
    Ct Tryz.prog 86 [.slice pa p.length pc] [] (fun w => Sees w (.slice pa p.length pc) 1 p.length (p.map encB)) (fun v A' => ∃ a c s' z, okC' 10938 1048576 s' ∧ tInv 12 5 z.t ∧ v = .tuple #[.slice a s'.length c, .agg #[.int .i64 z.t.id, .int .i64 z.t.age, .int .i64 z.t.proc, .int .i64 z.t.began, .slice z.x.a0 z.t.calls.length z.x.c0, .slice z.x.a1 z.t.ans.length z.x.c1, .slice z.x.a2 z.t.rd.length z.x.c2, .slice z.x.a3 z.t.wr.length z.x.c3, .slice z.x.a4 z.t.marks.length z.x.c4, .int .i64 z.t.state]] ∧ A' = [rC a c s', .rows (rdsX z)]) := by
  refine Ct.intro Tryz.func86 rfl Tryz.ntmps86 (lb rfl) fun w0 hpre => ?_
  have hs_pa : Sees w0 _ _ _ _ := hpre
  refine jC <| jE <| jA (jG (v := .slice none 0 0) rfl) ?_
  refine jH rfl (jn (z := xz) (cs := xzc) gH rfl) ?_
  rintro _ _ ⟨b_1, rfl, rfl⟩
  refine jD <| jB <| jC <| jE <| jA (jF (v := .slice pa p.length pc) rfl) ?_
  refine jH rfl (jM [] Tryz.call34 rfl (D_new pa pc p (by omega)) rfl (fun w hw => hw.seeOut_ hs_pa nM)) ?_
  rintro _ _ ⟨_, ⟨c_2, qs_3, -, rfl, rfl⟩, rfl⟩
  refine jA (jG (v := .pointer (some ⟨c_2, 0, none⟩)) rfl) <| jD <| jB <| jC <| jE <| jA (jF (v := .pointer (some ⟨c_2, 0, none⟩)) rfl) ?_
  refine jH rfl (jM [0] Tryz.call144 rfl (D_store6 c_2 pa pc p 0 qs_3 (by omega) (by omega) 6 (by omega) (by decide)) rfl (fun w hw => ⟨hw.seeOut_ hs_pa nM, hw.apart hs_pa nM (by simp)⟩)) ?_
  rintro _ _ ⟨_, ⟨qp_5, qs_6, l_8a, l_8c, l_8, fq_7, f_9, rfl, rfl⟩, rfl⟩
  have hO1_l_8 := f_9.1
  refine jA (jG (v := .slice l_8a l_8.length l_8c) rfl) <| jD <| jB <| jC <| jE <| jA (jF (v := .pointer (some ⟨c_2, 0, none⟩)) rfl) <| jA (jF (v := .slice l_8a l_8.length l_8c) rfl) ?_
  refine jH rfl (jM [0] Tryz.call145 rfl (D_any17 c_2 pa pc p qp_5 qs_6 (by omega) (by omega) l_8a l_8c l_8 f_9) rfl (fun w hw => ⟨⟨hw.seeOut_ hs_pa nM, hw.apart hs_pa nM (by simp)⟩, hw.see (i := 1) rfl, hw.apartO 1 0 rfl rfl rfl⟩)) ?_
  rintro _ _ ⟨_, ⟨qp_11, qs_12, z_14, fq_13, hd_15, rfl, rfl⟩, rfl⟩
  refine jH rfl (jn (z := xz) (cs := xzc) gH rfl) ?_
  rintro _ _ ⟨b_16, rfl, rfl⟩
  refine jH rfl (jT 0 (vs := (xc z_14)) (cs' := (xc z_14)) rfl rfl rfl rfl kq rfl rfl (lb rfl) rfl) ?_
  rintro _ _ rfl
  refine jD <| jB <| jC <| jC <| jE <| jA (jF (v := .pointer (some ⟨c_2, 0, none⟩)) rfl) ?_
  refine jH rfl (jM [1] Tryz.call146 rfl (D_once c_2 pa pc p qp_11 qs_12 (by omega) (by omega) 6 (by omega)) rfl (fun w hw => ⟨hw.seeOut_ hs_pa nM, hw.apart hs_pa nM (by simp)⟩)) ?_
  rintro _ _ ⟨_, ⟨qp_17, qs_18, b_20, fq_19, rfl, rfl⟩, rfl⟩
  refine jD <| jB ?_
  rcases Bool.eq_false_or_eq_true (b_20) with h_22 | h_22
  · refine jO (cB h_22) <| jE <| jA (jF (v := .pointer (some ⟨c_2, 0, none⟩)) rfl) <| jA (jF (v := .slice l_8a l_8.length l_8c) rfl) ?_
    refine jH rfl (jM [0] Tryz.call147 rfl (D_near16 c_2 pa pc p qp_17 qs_18 l_8a l_8c l_8 (by omega) (by omega) (by omega) f_9) rfl (fun w hw => ⟨⟨hw.seeOut_ hs_pa nM, hw.apart hs_pa nM (by simp)⟩, ⟨hw.see (i := 3) rfl, hw.apartO 3 0 rfl rfl rfl⟩⟩)) ?_
    rintro _ _ ⟨_, ⟨qp_23, qs_24, l_26a, l_26c, l_26, fq_25, f_27, rfl, rfl⟩, rfl⟩
    have hO1_l_26 := f_27.1
    refine jA (jG (v := .slice l_26a l_26.length l_26c) rfl) <| jD <| jB <| jC <| jr [] 0 mixed (by simp) <| jI 0 rfl (jF (v := .slice l_26a l_26.length l_26c) rfl) <| jI 2 rfl (jG (v := .slice l_26a l_26.length l_26c) rfl) <| jQ (i := 1) ?_
    refine kF rfl (ja (jX 2 (vs := (xc z_14)) rfl rfl kz kq rfl rfl)) ?_
    rintro _ _ ⟨rfl, rfl⟩
    refine jQ (i := 3) ?_
    refine jx rfl (jT 5 (vs := (xc z_14)) (cs' := (xc z_14)) rfl rfl rfl rfl kq rfl rfl (lb rfl) rfl) ?_
    rintro _ _ rfl
    refine jB <| jL <| kR (pick_perm [1, 2] (A := [rC l_26a l_26c l_26, Res.rows (rdsX z_14)]) (F := [cb c_2 pa pc p qp_23 qs_24, bk b_16 31 (xc z_14), rC l_8a l_8c l_8, bk b_1 31 (xc z_14)]) rfl).symm <| kB (.inl rfl) rfl (jN (v := .slice l_26a l_26.length l_26c) rfl) (je (jX 5 (vs := (xc z_14)) rfl rfl kz kq rfl rfl) ⟨_, rfl⟩) (tS 2 _) ?_
    exact ⟨l_26a, l_26c, l_26, z_14, f_27.mono (by decide), hd_15, rfl, rfl⟩
  refine jP (cB h_22) <| jU <| jB <| jC <| jr [] 0 mixed (by simp) <| jI 0 rfl (jF (v := .slice l_8a l_8.length l_8c) rfl) <| jI 2 rfl (jG (v := .slice l_8a l_8.length l_8c) rfl) <| jQ (i := 1) ?_
  refine kF rfl (ja (jX 1 (vs := (xc z_14)) rfl rfl kz kq rfl rfl)) ?_
  rintro _ _ ⟨rfl, rfl⟩
  refine jQ (i := 3) ?_
  refine jx rfl (jT 4 (vs := (xc z_14)) (cs' := (xc z_14)) rfl rfl rfl rfl kq rfl rfl (lb rfl) rfl) ?_
  rintro _ _ rfl
  refine jB <| jL <| kR (pick_perm [3, 2] (A := [rC l_8a l_8c l_8, Res.rows (rdsX z_14)]) (F := [cb c_2 pa pc p qp_17 qs_18, bk b_16 31 (xc z_14), bk b_1 31 (xc z_14)]) rfl).symm <| kB (.inl rfl) rfl (jN (v := .slice l_8a l_8.length l_8c) rfl) (je (jX 4 (vs := (xc z_14)) rfl rfl kz kq rfl rfl) ⟨_, rfl⟩) (tS 2 _) ?_
  exact ⟨l_8a, l_8c, l_8, z_14, f_9.mono (by decide), hd_15, rfl, rfl⟩

set_option maxRecDepth 4000 in
set_option maxHeartbeats 1000000 in
theorem D_dTxSteps (pa : Option Addr) (pc : Nat) (p : Str) (hp : p.length ≤ 1048576) :
    Ct Tryz.prog 30 [.slice pa p.length pc] [] (fun w => Sees w (.slice pa p.length pc) 1 p.length (p.map encB)) (fun v A' => ∃ z, tInv 12 5 z.t ∧ v = .agg #[.int .i64 z.t.id, .int .i64 z.t.age, .int .i64 z.t.proc, .int .i64 z.t.began, .slice z.x.a0 z.t.calls.length z.x.c0, .slice z.x.a1 z.t.ans.length z.x.c1, .slice z.x.a2 z.t.rd.length z.x.c2, .slice z.x.a3 z.t.wr.length z.x.c3, .slice z.x.a4 z.t.marks.length z.x.c4, .int .i64 z.t.state] ∧ A' = [.rows (rdsX z)]) := by
  refine Ct.intro Tryz.func30 rfl Tryz.ntmps30 (lb rfl) fun w0 hpre => ?_
  have hs_pa : Sees w0 _ _ _ _ := hpre
  refine jC <| jE ?_
  refine jH rfl (jn (z := xz) (cs := xzc) gH rfl) ?_
  rintro _ _ ⟨b_1, rfl, rfl⟩
  refine jD <| jB <| jC <| jE <| jA (jF (v := .slice pa p.length pc) rfl) ?_
  refine jH rfl (jM [] Tryz.call86 rfl (D_case17 pa pc p (by omega)) rfl (fun w hw => hw.seeOut_ hs_pa nM)) ?_
  rintro _ _ ⟨_, ⟨a_2, c_3, l_4, z_5, hO_6, hd_7, rfl, rfl⟩, rfl⟩
  refine jA (jF (v := .tuple #[.slice a_2 l_4.length c_3, (xv z_5)]) rfl) <| jA (jb (v := .slice a_2 l_4.length c_3) rfl rfl) <| jA (jb (v := (xv z_5)) rfl rfl) ?_
  refine jH rfl (jn (z := xz) (cs := xzc) gH rfl) ?_
  rintro _ _ ⟨b_8, rfl, rfl⟩
  refine jA (jG (v := .slice a_2 l_4.length c_3) rfl) ?_
  refine jH rfl (jT 0 (vs := (xc z_5)) (cs' := (xc z_5)) rfl rfl rfl rfl kq rfl rfl (lb rfl) rfl) ?_
  rintro _ _ rfl
  refine jD <| jB <| jC <| jE <| jK (jX 0 (vs := (xc z_5)) rfl rfl kz kq rfl rfl) ?_
  refine jH rfl (jT 3 (vs := (xc z_5)) (cs' := (xc z_5)) rfl rfl rfl rfl kq rfl rfl (lb rfl) rfl) ?_
  rintro _ _ rfl
  refine jD <| jB <| jL <| kR (pick_perm [2] (A := [Res.rows (rdsX z_5)]) (F := [bk b_8 31 (xc z_5), rC a_2 c_3 l_4, bk b_1 31 (xc z_5)]) rfl).symm <| jR (.inl rfl) rfl (je (jX 3 (vs := (xc z_5)) rfl rfl kz kq rfl rfl) ⟨_, rfl⟩) (tS 1 _) ?_
  exact ⟨z_5, hd_7, rfl, rfl⟩

set_option maxRecDepth 4000 in
set_option maxHeartbeats 1000000 in
theorem D_dTxMark (pa : Option Addr) (pc : Nat) (p : Str) (hp : p.length ≤ 1048576) :
    Ct Tryz.prog 6 [.slice pa p.length pc] [] (fun w => Sees w (.slice pa p.length pc) 1 p.length (p.map encB)) (fun v A' => ∃ z, tInv 12 5 z.t ∧ v = .agg #[.int .i64 z.t.id, .int .i64 z.t.age, .int .i64 z.t.proc, .int .i64 z.t.began, .slice z.x.a0 z.t.calls.length z.x.c0, .slice z.x.a1 z.t.ans.length z.x.c1, .slice z.x.a2 z.t.rd.length z.x.c2, .slice z.x.a3 z.t.wr.length z.x.c3, .slice z.x.a4 z.t.marks.length z.x.c4, .int .i64 z.t.state] ∧ A' = [.rows (rdsX z)]) := by
  refine Ct.intro Tryz.func6 rfl Tryz.ntmps6 (lb rfl) fun w0 hpre => ?_
  have hs_pa : Sees w0 _ _ _ _ := hpre
  refine jC <| jE ?_
  refine jH rfl (jn (z := xz) (cs := xzc) gH rfl) ?_
  rintro _ _ ⟨b_1, rfl, rfl⟩
  refine jD <| jB <| jC <| jE <| jA (jF (v := .slice pa p.length pc) rfl) ?_
  refine jH rfl (jM [] Tryz.call30 rfl (D_dTxSteps pa pc p (by omega)) rfl (fun w hw => hw.seeOut_ hs_pa nM)) ?_
  rintro _ _ ⟨_, ⟨z_2, hd_3, rfl, rfl⟩, rfl⟩
  refine jH rfl (jT 1 (vs := (xc z_2)) (cs' := (xc z_2)) rfl rfl rfl rfl kq rfl rfl (lb rfl) rfl) ?_
  rintro _ _ rfl
  refine jD <| jB <| jL <| jR (.inl rfl) rfl (je (jX 1 (vs := (xc z_2)) rfl rfl kz kq rfl rfl) ⟨_, rfl⟩) (tS 1 _) ?_
  exact ⟨z_2, hd_3, rfl, rfl⟩

set_option maxRecDepth 4000 in
set_option maxHeartbeats 1000000 in
theorem D_dTxBack (pa : Option Addr) (pc : Nat) (p : Str) (hp : p.length ≤ 1048576) :
    Ct Tryz.prog 9 [.slice pa p.length pc] [] (fun w => Sees w (.slice pa p.length pc) 1 p.length (p.map encB)) (fun v A' => ∃ z k, tInv 12 5 z.t ∧ (-9 ≤ k ∧ k ≤ 9) ∧ v = .tuple #[.agg #[.int .i64 z.t.id, .int .i64 z.t.age, .int .i64 z.t.proc, .int .i64 z.t.began, .slice z.x.a0 z.t.calls.length z.x.c0, .slice z.x.a1 z.t.ans.length z.x.c1, .slice z.x.a2 z.t.rd.length z.x.c2, .slice z.x.a3 z.t.wr.length z.x.c3, .slice z.x.a4 z.t.marks.length z.x.c4, .int .i64 z.t.state], .int .i64 k] ∧ A' = [.rows (rdsX z)]) := by
  refine Ct.intro Tryz.func9 rfl Tryz.ntmps9 (lb rfl) fun w0 hpre => ?_
  have hs_pa : Sees w0 _ _ _ _ := hpre
  refine jC <| jE ?_
  refine jH rfl (jn (z := xz) (cs := xzc) gH rfl) ?_
  rintro _ _ ⟨b_1, rfl, rfl⟩
  refine jA (jG (v := iv 0) rfl) <| jD <| jB <| jC <| jE <| jA (jF (v := .slice pa p.length pc) rfl) ?_
  refine jH rfl (jM [] Tryz.call30 rfl (D_dTxSteps pa pc p (by omega)) rfl (fun w hw => hw.seeOut_ hs_pa nM)) ?_
  rintro _ _ ⟨_, ⟨z_2, hd_3, rfl, rfl⟩, rfl⟩
  refine jA (jF (v := .slice pa p.length pc) rfl) ?_
  refine jH rfl (jM [] Tryz.call34 rfl (D_new pa pc p (by omega)) rfl (fun w hw => hw.seeOut_ hs_pa nM)) ?_
  rintro _ _ ⟨_, ⟨c_6, qs_7, -, rfl, rfl⟩, rfl⟩
  refine jH rfl (jM [0] Tryz.call33 rfl (D_below c_6 pa pc p 0 qs_7 (by omega) (by omega) 5 (by omega)) rfl (fun w hw => ⟨hw.seeOut_ hs_pa nM, hw.apart hs_pa nM (by simp)⟩)) ?_
  rintro _ _ ⟨_, ⟨qp_9, qs_10, n_12, fq_11, f_13, rfl, rfl⟩, rfl⟩
  refine jA (kW (c := ((n_12 : Nat) : Int) - 1) rfl rfl (wr (by omega))) ?_
  refine jH rfl (jT 2 (vs := (xc z_2)) (cs' := (xc z_2)) rfl rfl rfl rfl kq rfl rfl (lb rfl) rfl) ?_
  rintro _ _ rfl
  refine jA (jG (v := iv (((n_12 : Nat) : Int) - 1)) rfl) <| jD <| jB <| jL <| kR (pick_perm [1] (A := [Res.rows (rdsX z_2)]) (F := [cb c_6 pa pc p qp_9 qs_10, bk b_1 31 (xc z_2)]) rfl).symm <| kB (.inl rfl) rfl (je (jX 2 (vs := (xc z_2)) rfl rfl kz kq rfl rfl) ⟨_, rfl⟩) (jN (v := iv (((n_12 : Nat) : Int) - 1)) rfl) (tS 1 _) ?_
  exact ⟨z_2, (((n_12 : Nat) : Int) - 1), hd_3, (by omega), rfl, rfl⟩

end Go.Proofs.YtghfijncihbojaaGreat

set_option linter.unusedSimpArgs false
set_option linter.unusedVariables false
set_option linter.unnecessarySimpa false
namespace Go.Proofs.YtghfijncihbojaaGreat
open Go Go.RowKit
theorem mark_rng (t : TD) : 0 ≤ t.mark.2 ∧ t.mark.2 ≤ 4 := by
  unfold TD.mark
  split <;> dsimp only <;> omega
theorem mark_zero {t : TD} (h : t.mark.2 = 0) : t.mark.1 = t := by
  unfold TD.mark at h ⊢
  split at h
  · dsimp only at h; omega
  · rename_i hn
    rw [if_neg hn]
theorem mark_back {t : TD} (h : ¬ t.mark.2 = 0) : (t.mark.1.back t.mark.2).2 = true ∧ (t.mark.1.back t.mark.2).1.calls.length = t.calls.length ∧ (((t.mark.1.back t.mark.2).1.marks.length : Nat) : Int) = t.mark.2 - 1 := by
  have hc : t.state = 1 ∧ (t.marks.length : Int) < 4 := Classical.byContradiction fun hn => h (by rw [TD.mark, if_neg hn])
  have hm : t.mark = ({ t with marks := t.marks ++ [(t.calls.length : Int)] }, ((t.marks.length + 1 : Nat) : Int)) := by rw [TD.mark, if_pos hc]
  rw [hm]
  have hk : (((t.marks.length + 1 : Nat) : Int) - 1).toNat = t.marks.length := by omega
  have hg : (t.marks ++ [(t.calls.length : Int)]).getD t.marks.length 0 = (t.calls.length : Int) := by
    rw [List.getD_eq_getElem?_getD, List.getElem?_append_right (Nat.le_refl _), Nat.sub_self]
    rfl
  have hb : bro ((t.calls.length : Nat) : Int) t.calls.length = t.calls.length := by unfold bro; omega
  dsimp only
  rw [TD.back, if_pos ⟨hc.1, by omega, by simp only [List.length_append, List.length_cons, List.length_nil]; omega⟩, hk]
  dsimp only
  rw [hg, hb]
  refine ⟨rfl, by rw [List.length_take]; omega, ?_⟩
  simp only [List.length_take, List.length_append, List.length_cons, List.length_nil]
  omega
theorem ask_back {t z y : TD} {v : List Cell} {c : CL} {a : AN} (h0 : t = (TD.new 1 1 1).mark.1) (e : TD.askV v t c = (z, a)) (hy : y = (z.back 1).1) : (z.back 1).2 = true ∧ y.calls.length = 0 ∧ y.wr.length = z.wr.length := by
  have hm : t = { TD.new 1 1 1 with marks := [0] } := by rw [h0]; rfl
  subst hm
  rw [askV_on (t := { TD.new 1 1 1 with marks := [0] }) rfl (by decide)] at e
  simp only [Prod.mk.injEq] at e
  obtain ⟨rfl, rfl⟩ := e
  subst hy
  rw [TD.back, if_pos ⟨rfl, Int.le_refl 1, Int.le_refl 1⟩]
  exact ⟨rfl, rfl, rfl⟩
end Go.Proofs.YtghfijncihbojaaGreat
