/-
  Texts of the walk, joined: what each one proves stands at its theorems.
-/
import Derived.Test.YtjncpgcccgdeiaaGreatDoorS23SAME
import Derived.Test.YtjncpgcccgdeiaaGreatDoorDatH
import Derived.Lib.Strings
import Derived.Test.YtjncpgcccgdeiaaGreatDoorSlStr
import Derived.Test.YtjncpgcccgdeiaaGreatDoorOpenZ
import Derived.Laws.Small
set_option linter.unusedSimpArgs false
set_option linter.unusedVariables false
set_option linter.unnecessarySimpa false
namespace Go.Proofs.YtjncpgcccgdeiaaGreatDoor
open Go Go.RowKit
def addT (t : Str) (js : Int) (u : Str) : Str × Bool := if jourOk t js = true ∧ t.length + u.length ≤ 20000 then (t ++ u, true) else (t, false)
def flushT (t : Str) (js : Int) : Int := if jourOk t js = true then ((t.length : Nat) : Int) else js
theorem addT_yes {t : Str} {js : Int} {u : Str} (h : jourOk t js = true) (h2 : t.length + u.length ≤ 20000) : addT t js u = (t ++ u, true) := if_pos ⟨h, h2⟩
theorem addT_no {t : Str} {js : Int} {u : Str} (h : ¬ (jourOk t js = true ∧ t.length + u.length ≤ 20000)) : addT t js u = (t, false) := if_neg h
theorem addT_len {t : Str} {js : Int} {u q : Str} {b : Bool} (h : addT t js u = (q, b)) {n : Nat} (ht : t.length ≤ n) (hn : 20000 ≤ n) : q.length ≤ n := by
  unfold addT at h
  split at h
  · rename_i hc
    simp only [Prod.mk.injEq] at h
    rw [← h.1, List.length_append]
    omega
  · simp only [Prod.mk.injEq] at h
    rw [← h.1]
    exact ht
theorem flushT_yes {t : Str} {js : Int} (h : jourOk t js = true) : flushT t js = ((t.length : Nat) : Int) := if_pos h
theorem flushT_no {t : Str} {js : Int} (h : jourOk t js = false) : flushT t js = js := if_neg (by rw [h]; exact Bool.false_ne_true)
section
variable {q l : List OX} {i : Nat} {x : OX}
end
theorem jourUnder : Tryz.prog.underlying 29 = some (.struct (Tryz.prog.fieldsOf 29)) := by kernel_rfl
theorem PO.eqlJ {n : Nat} {e : Env} {d : Option Tmp} {ty : TypeId} {pos : String} {aft : Array Edge} {gd : Option (Nat × Bool)} {x y : Operand} {a b : Str} {j k : Int} {u : TypeId} (hx : rd n e x = .agg #[str a, .int .i64 j]) (hy : rd n e y = .agg #[str b, .int .i64 k]) : PO Tryz.prog n e ⟨d, .binOp .eql 29 x y u, ty, pos, aft, gd⟩ (.bool (decide (a = b ∧ j = k))) := fun w => by
  have he : (Op.equalIn 10000 29 (.agg #[str a, .int .i64 j]) (.agg #[str b, .int .i64 k])).run Tryz.prog w = .ok (decide (a = b ∧ j = k)) w := by
    rw [run_equalIn_struct w 9999 29 _ _ jourUnder Tryz.stoodInHeld29]
    rw [show (Tryz.prog.fieldsOf 29).toList = [⟨ "Text", 9, 0, false, "", "", 0⟩, ⟨ "Sure", 3, 1, false, "", "", 16⟩] by kernel_rfl]
    have e1 : (Op.equalIn 9999 9 (str a) (str b)).run Tryz.prog w = .ok (decide (a = b)) w := by
      simp only [str]
      rw [run_equalIn_string w 9998 9 _ _ kg]
      simp [beq_dec]
    have e2 : (Op.equalIn 9999 3 (.int .i64 j) (.int .i64 k)).run Tryz.prog w = .ok (decide (j = k)) w := by
      rw [run_equalIn_int w 9998 3 _ _ _ _ gC]
      simp [beq_dec]
    have p1 : ∀ (c : Str) (i : Int), (part 9 #[str c, .int .i64 i] 0).run Tryz.prog w = .ok (str c) w := fun c i => by simp [part, str]
    have p2 : ∀ (c : Str) (i : Int), (part 3 #[str c, .int .i64 i] 1).run Tryz.prog w = .ok (.int .i64 i) w := fun c i => by simp [part]
    simp only [Op.eqFields, Sem.run_bind, p1, p2, e1, e2, Result.andThen_ok, ne_eq, Sem.run_ite, Sem.run_pure]
    by_cases h1 : a = b <;> by_cases h2 : j = k <;> simp [h1, h2]
  simp only [execOp, hx, hy, Sem.run_bind, run_eqGuard_agg w .eql 29 x y _ _ Tryz.eqGuardType29, Result.andThen_ok, run_eql_struct, he, Sem.run_pure]
attribute [local irreducible] JL JC JQ JO LO PO JA JX Ct

set_option maxRecDepth 4000 in
set_option maxHeartbeats 1000000 in
theorem Y_specDiskNew (a : Option Addr) (c : Nat) (s : List Cell) (hs : s.length ≤ 1000000000) :
    Ct Tryz.prog 40 [.slice a s.length c] [] (fun w => Sees w (.slice a s.length c) 2 s.length (s.flatMap encC)) (fun v A' => ∃ d : DX, d.dat = DD.new s ∧ v = .agg #[.slice d.a d.l.length d.c, str d.jt, .int .i64 d.js] ∧ A' = [.rows (rdsD d)]) := by
  refine Ct.intro Tryz.func40 rfl Tryz.ntmps40 (lb rfl) fun w0 hpre => ?_
  have hs_a : Sees w0 _ _ _ _ := hpre
  refine jC <| jF ?_
  refine jH rfl (jo (z := .agg #[.slice none 0 0, str [], iv 0]) (cs := [.slice none 0 0, str [], iv 0]) ko rfl) ?_
  rintro _ _ ⟨b_1, rfl, rfl⟩
  refine jE <| jB <| jC <| jF ?_
  refine jH rfl (kH (ps := []) (cur := #[]) kf kh kw rfl (by kernel_rfl) (by decide) (by decide)) ?_
  rintro _ _ ⟨a_2, rfl, rfl⟩
  refine jA (jD (v := .slice a s.length c) rfl) ?_
  refine jH rfl (kU 0 (q := s.length) (news := s.flatMap encC) (n' := s.length) (cs' := s.flatMap encC) rfl kf kf ky rfl (by' := 32) rfl rfl rfl rfl rfl (fun w hw => Src.sees (hw.seeOut_ hs_a nM) (oneC _)) (by (try simp only [LE]); omega) (by (try simp only [LE]); omega) (by (try simp only [List.length_take, List.length_drop]); first | rfl | omega) rfl) ?_
  rintro _ _ ⟨a_3, c_4, rfl, rfl⟩
  refine jA (kW (ps := [(1, .slice a_3 s.length c_4), (2, .bool true)]) (cs := [iv 0, .slice a_3 s.length c_4, .bool true]) rfl (by kernel_rfl)) <| jA (kW (ps := []) (cs := [iv 0, .slice none 0 0, .bool false]) rfl (by kernel_rfl)) ?_
  refine jH rfl (kH (ps := [(0, .agg #[iv 0, .slice a_3 s.length c_4, .bool true]), (1, .agg #[iv 0, .slice none 0 0, .bool false])]) (cur := #[iv 0, .slice a_3 s.length c_4, .bool true, iv 0, .slice none 0 0, .bool false]) km kj gD rfl (by kernel_rfl) (by decide) (by decide)) ?_
  rintro _ _ ⟨a_5, rfl, rfl⟩
  refine jA (kW (ps := [(0, .slice a_5 2 2)]) (cs := [.slice a_5 2 2, str [], iv 0]) rfl (by kernel_rfl)) ?_
  refine jH rfl (ja 2 (vs := [.slice a_5 2 2, str [], iv 0]) (cs' := [.slice a_5 2 2, str [], iv 0]) rfl rfl rfl rfl kd rfl rfl (lb rfl) rfl) ?_
  rintro _ _ rfl
  refine jE <| jB <| jN <| JQ.nilRow 48 2 <| ju (L' := [Res.rows (([(⟨⟨a_3, c_4⟩, ⟨0, s, true⟩⟩ : OX), (⟨⟨none, 0⟩, ⟨0, [], false⟩⟩ : OX)] : List OX).flatMap rdsO), Res.row (.slice a_5 2 2) 60 3 2 (([(⟨⟨a_3, c_4⟩, ⟨0, s, true⟩⟩ : OX), (⟨⟨none, 0⟩, ⟨0, [], false⟩⟩ : OX)] : List OX).flatMap encO), bk b_1 31 [.slice a_5 2 2, str [], iv 0]]) (fun w hw => hw.closeR (A := ([⟨.slice a_3 s.length c_4, 48, 2, s.length, s.flatMap encC⟩, ⟨.slice none 0 0, 48, 2, 0, ([] : List Cell).flatMap encC⟩] : List RD)) [2, 0] rfl) <| ju (L' := [Res.rows (rdsOS a_5 2 ([(⟨⟨a_3, c_4⟩, ⟨0, s, true⟩⟩ : OX), (⟨⟨none, 0⟩, ⟨0, [], false⟩⟩ : OX)] : List OX)), bk b_1 31 [.slice a_5 2 2, str [], iv 0]]) (fun w hw => hw.consR (r := ⟨.slice a_5 2 2, 60, 3, 2, ([(⟨⟨a_3, c_4⟩, ⟨0, s, true⟩⟩ : OX), (⟨⟨none, 0⟩, ⟨0, [], false⟩⟩ : OX)] : List OX).flatMap encO⟩) (A := ([(⟨⟨a_3, c_4⟩, ⟨0, s, true⟩⟩ : OX), (⟨⟨none, 0⟩, ⟨0, [], false⟩⟩ : OX)] : List OX).flatMap rdsO) [1, 0] rfl) <| jV (.inl rfl) rfl (kA (jO 1 (vs := [.slice a_5 2 2, str [], iv 0]) rfl rfl ke kd rfl rfl) ⟨_, rfl⟩) (tS 1 _) ?_
  exact ⟨(⟨a_5, 2, ([(⟨⟨a_3, c_4⟩, ⟨0, s, true⟩⟩ : OX), (⟨⟨none, 0⟩, ⟨0, [], false⟩⟩ : OX)] : List OX), [], 0⟩ : DX), rfl, rfl, rfl⟩

theorem Y_sAdd (t : Str) (js : Int) (u : Str) (hl : t.length ≤ 1000000000) (hu : u.length ≤ 1000000000) :
    Ct Tryz.prog 180 [.agg #[str t, .int .i64 js], str u] [] (fun _ => True) (fun v A' => ∃ q b, addT t js u = (q, b) ∧ v = .tuple #[.agg #[str q, .int .i64 js], .bool b] ∧ A' = []) := by
  refine Ct.intro Tryz.func180 rfl Tryz.ntmps180 (lb rfl) fun w0 hpre => ?_
  refine jC <| jF ?_
  refine jH rfl (kG (cs := [str t, iv js]) rfl rfl) ?_
  rintro _ _ ⟨b_1, rfl, rfl⟩
  refine jH rfl (jo (z := .agg #[str [], iv 0]) (cs := [str [], iv 0]) gN rfl) ?_
  rintro _ _ ⟨b_2, rfl, rfl⟩
  refine jA (jG (v := .bool false) rfl) <| jE <| jB <| jC <| jC <| jF <| jK (jO 1 (vs := [str t, iv js]) rfl rfl kp kl rfl rfl) ?_
  refine jH rfl (jI [] Tryz.call95 rfl (Y_specJournalOk t js (by omega)) rfl (fun _ _ => trivial)) ?_
  rintro _ _ ⟨_, ⟨rfl, rfl⟩, rfl⟩
  refine jA (jp rfl) <| jA (jD (v := .bool (!(jourOk t js))) rfl) ?_
  rcases Bool.eq_false_or_eq_true (jourOk t js) with h_3 | h_3
  · have hjr := jour_le h_3
    refine jM rfl rfl rfl (cB (cN h_3)) (jP (jU (jD (v := str u) rfl))) ?_
    rintro _ _ ⟨rfl, rfl⟩
    refine jM rfl rfl rfl (cB (cN h_3)) (jP (jU (kF kg rfl))) ?_
    rintro _ _ ⟨rfl, rfl⟩
    refine jM rfl rfl rfl (cB (cN h_3)) (jP (jU (jQ fo29_0 rfl))) ?_
    rintro _ _ ⟨rfl, rfl⟩
    refine jM rfl rfl rfl (cB (cN h_3)) (jP (jZ 1 (v := str t) rfl rfl ki rfl)) ?_
    rintro _ _ ⟨rfl, rfl⟩
    refine jM rfl rfl rfl (cB (cN h_3)) (jP (jU (kF kg rfl))) ?_
    rintro _ _ ⟨rfl, rfl⟩
    refine jM rfl rfl rfl (cB (cN h_3)) (jP (jU (kZ (c := 20000 - (t.length : Int)) rfl rfl (wr (by omega))))) ?_
    rintro _ _ ⟨rfl, rfl⟩
    refine jM rfl rfl rfl (cB (cN h_3)) (jP (jU (kR rfl rfl))) ?_
    rintro _ _ ⟨rfl, rfl⟩
    refine jA (ji (v := .bool (decide ((20000 - (t.length : Int)) < (u.length : Int)))) (cB (cN h_3)) rfl) <| jE <| jB ?_
    by_cases h_4 : (20000 - (t.length : Int)) < (u.length : Int)
    · refine jW (cB (dT h_4)) <| jC <| jF <| jK (jO 1 (vs := [str t, iv js]) rfl rfl kp kl rfl rfl) ?_
      refine jH rfl (ja 0 (vs := [str t, iv js]) (cs' := [str t, iv js]) rfl rfl rfl rfl kl rfl rfl (lb rfl) rfl) ?_
      rintro _ _ rfl
      refine jA (jG (v := .bool false) rfl) <| jE <| jB <| jN <| jX <| kC (.inl rfl) rfl (kA (jO 0 (vs := [str t, iv js]) rfl rfl kp kl rfl rfl) ⟨_, rfl⟩) (jJ (v := .bool false) rfl) (List.nil_sublist _) ?_
      exact ⟨_, _, addT_no (by rintro ⟨h_1, h_2⟩; first | (rw [h_3] at h_1; cases h_1; done) | omega), rfl, rfl⟩
    refine jR (cB (dF h_4)) <| jT <| jB <| jC <| jF <| jA (jQ fo29_0 rfl) <| jK (jZ 1 (v := str t) rfl rfl ki rfl) <| jA (jD (v := str u) rfl) <| jA (kc rfl rfl (by (try simp only [List.length_append, List.length_cons, List.length_nil, List.length_drop, List.length_take]); omega)) <| jA (jQ fo29_0 rfl) ?_
    refine jH rfl (ja 1 (vs := [str (t ++ u)]) (cs' := [str (t ++ u), iv js]) rfl rfl rfl rfl kt rfl rfl (lb rfl) rfl) ?_
    rintro _ _ rfl
    refine jE <| jB <| jC <| jF <| jK (jO 1 (vs := [str (t ++ u), iv js]) rfl rfl kp kl rfl rfl) ?_
    refine jH rfl (ja 0 (vs := [str (t ++ u), iv js]) (cs' := [str (t ++ u), iv js]) rfl rfl rfl rfl kl rfl rfl (lb rfl) rfl) ?_
    rintro _ _ rfl
    refine jA (jG (v := .bool true) rfl) <| jE <| jB <| jN <| kC (.inl rfl) rfl (kA (jO 0 (vs := [str (t ++ u), iv js]) rfl rfl kp kl rfl rfl) ⟨_, rfl⟩) (jJ (v := .bool true) rfl) (List.nil_sublist _) ?_
    exact ⟨_, _, addT_yes h_3 (by omega), rfl, rfl⟩
  refine jS (b := true) rfl rfl rfl (cB (cN h_3)) <| jS (b := true) rfl rfl rfl (cB (cN h_3)) <| jS (b := true) rfl rfl rfl (cB (cN h_3)) <| jS (b := true) rfl rfl rfl (cB (cN h_3)) <| jS (b := true) rfl rfl rfl (cB (cN h_3)) <| jS (b := true) rfl rfl rfl (cB (cN h_3)) <| jS (b := true) rfl rfl rfl (cB (cN h_3)) <| jA (jh (v := .bool true) (cB (cN h_3)) rfl) <| jE <| jB ?_
  refine jW (cB rfl) <| jC <| jF <| jK (jO 1 (vs := [str t, iv js]) rfl rfl kp kl rfl rfl) ?_
  refine jH rfl (ja 0 (vs := [str t, iv js]) (cs' := [str t, iv js]) rfl rfl rfl rfl kl rfl rfl (lb rfl) rfl) ?_
  rintro _ _ rfl
  refine jA (jG (v := .bool false) rfl) <| jE <| jB <| jN <| jX <| kC (.inl rfl) rfl (kA (jO 0 (vs := [str t, iv js]) rfl rfl kp kl rfl rfl) ⟨_, rfl⟩) (jJ (v := .bool false) rfl) (List.nil_sublist _) ?_
  exact ⟨_, _, addT_no (by rintro ⟨h_1, h_2⟩; first | (rw [h_3] at h_1; cases h_1; done) | omega), rfl, rfl⟩

theorem Y_sFlush (t : Str) (js : Int) (hl : t.length ≤ 1000000000) :
    Ct Tryz.prog 182 [.agg #[str t, .int .i64 js]] [] (fun _ => True) (fun v A' => ∃ k, flushT t js = k ∧ v = .agg #[str t, .int .i64 k] ∧ A' = []) := by
  refine Ct.intro Tryz.func182 rfl Tryz.ntmps182 (lb rfl) fun w0 hpre => ?_
  refine jC <| jF ?_
  refine jH rfl (kG (cs := [str t, iv js]) rfl rfl) ?_
  rintro _ _ ⟨b_1, rfl, rfl⟩
  refine jH rfl (jo (z := .agg #[str [], iv 0]) (cs := [str [], iv 0]) gN rfl) ?_
  rintro _ _ ⟨b_2, rfl, rfl⟩
  refine jE <| jB <| jC <| jC <| jF <| jK (jO 1 (vs := [str t, iv js]) rfl rfl kp kl rfl rfl) ?_
  refine jH rfl (jI [] Tryz.call95 rfl (Y_specJournalOk t js (by omega)) rfl (fun _ _ => trivial)) ?_
  rintro _ _ ⟨_, ⟨rfl, rfl⟩, rfl⟩
  refine jE <| jB ?_
  rcases Bool.eq_false_or_eq_true (jourOk t js) with h_3 | h_3
  · have hjr := jour_le h_3
    refine jW (cB h_3) <| jF <| jA (jQ fo29_0 rfl) <| jK (jZ 1 (v := str t) rfl rfl ki rfl) <| jA (kF kg rfl) <| jA (jQ fo29_1 rfl) ?_
    refine jH rfl (ja 1 (vs := [iv (t.length : Int)]) (cs' := [str t, iv (t.length : Int)]) rfl rfl rfl rfl gA rfl rfl (lb rfl) rfl) ?_
    rintro _ _ rfl
    refine jE <| jB <| jC <| jF <| jK (jO 1 (vs := [str t, iv (t.length : Int)]) rfl rfl kp kl rfl rfl) ?_
    refine jH rfl (ja 0 (vs := [str t, iv (t.length : Int)]) (cs' := [str t, iv (t.length : Int)]) rfl rfl rfl rfl kl rfl rfl (lb rfl) rfl) ?_
    rintro _ _ rfl
    refine jE <| jB <| jN <| jV (.inl rfl) rfl (kA (jO 0 (vs := [str t, iv (t.length : Int)]) rfl rfl kp kl rfl rfl) ⟨_, rfl⟩) (List.nil_sublist _) ?_
    exact ⟨_, flushT_yes h_3, rfl, rfl⟩
  refine jR (cB h_3) <| jT <| jB <| jC <| jF <| jK (jO 1 (vs := [str t, iv js]) rfl rfl kp kl rfl rfl) ?_
  refine jH rfl (ja 0 (vs := [str t, iv js]) (cs' := [str t, iv js]) rfl rfl rfl rfl kl rfl rfl (lb rfl) rfl) ?_
  rintro _ _ rfl
  refine jE <| jB <| jN <| jV (.inl rfl) rfl (kA (jO 0 (vs := [str t, iv js]) rfl rfl kp kl rfl rfl) ⟨_, rfl⟩) (List.nil_sublist _) ?_
  exact ⟨_, flushT_no h_3, rfl, rfl⟩

theorem Y_jsize (d : DX) (hz : d.jt.length ≤ 9223372036854775807) :
    Ct Tryz.prog 36 [.agg #[.slice d.a d.l.length d.c, str d.jt, .int .i64 d.js]] [] (fun _ => True) (fun v A' => v = .int .i64 ((d.jt.length : Nat) : Int) ∧ A' = []) := by
  refine Ct.intro Tryz.func36 rfl Tryz.ntmps36 (lb rfl) fun w0 hpre => ?_
  refine jC <| jF ?_
  refine jH rfl (kG (cs := [.slice d.a d.l.length d.c, str d.jt, iv d.js]) rfl rfl) ?_
  rintro _ _ ⟨b_1, rfl, rfl⟩
  refine jA (jG (v := iv 0) rfl) <| jE <| jB <| jC <| jF <| jA (jQ fo31_1 rfl) <| jA (jQ fo29_0 rfl) <| jK (jZ 0 (v := str d.jt) rfl rfl ki rfl) <| jA (kF kg rfl) <| jA (jG (v := iv (d.jt.length : Int)) rfl) ?_
  refine jE <| jB <| jN <| jV (.inl rfl) rfl (jJ (v := iv (d.jt.length : Int)) rfl) (List.nil_sublist _) ?_
  exact ⟨rfl, rfl⟩

theorem sameO {p q : SD} : p = q ↔ p.seq = q.seq ∧ p.cells = q.cells ∧ p.whole = q.whole := by cases p; cases q; simp
theorem sameDX {d e : DX} : d.dat = e.dat ↔ d.l.map OX.t = e.l.map OX.t ∧ d.jt = e.jt ∧ d.js = e.js := DD.same

theorem Y_sameSlot (p q : OX) (hl : p.t.lim 1000000000) :
    Ct Tryz.prog 132 [.agg #[.int .i64 p.t.seq, .slice p.x.a0 p.t.cells.length p.x.c0, .bool p.t.whole], .agg #[.int .i64 q.t.seq, .slice q.x.a0 q.t.cells.length q.x.c0, .bool q.t.whole]] [] (fun w => SeesA w (rdsO p) ∧ SeesA w (rdsO q)) (fun v A' => v = .bool (decide (p.t = q.t)) ∧ A' = []) := by
  refine Ct.intro Tryz.func132 rfl Tryz.ntmps132 (lb rfl) fun w0 hpre => ?_
  have hs_1 := seesO hpre.1
  have hs_2 := seesO hpre.2
  have hl0 := hl.l0
  refine jC <| jF ?_
  refine jH rfl (kG (cs := [iv p.t.seq, .slice p.x.a0 p.t.cells.length p.x.c0, .bool p.t.whole]) rfl rfl) ?_
  rintro _ _ ⟨b_3, rfl, rfl⟩
  refine jH rfl (kG (cs := [iv q.t.seq, .slice q.x.a0 q.t.cells.length q.x.c0, .bool q.t.whole]) rfl rfl) ?_
  rintro _ _ ⟨b_4, rfl, rfl⟩
  refine jA (jG (v := .bool false) rfl) <| jE <| jB <| jC <| jF <| jA (jQ fo60_0 rfl) <| jK (jZ 1 (v := iv p.t.seq) rfl rfl kq rfl) <| jA (jQ fo60_0 rfl) <| jK (jZ 0 (v := iv q.t.seq) rfl rfl kq rfl) <| jA (kO rfl rfl) ?_
  refine jA (jD (v := .bool (decide (p.t.seq = q.t.seq))) rfl) ?_
  by_cases h_5 : p.t.seq = q.t.seq
  · refine jM rfl rfl rfl (cB (dT h_5)) (jP (jU (jQ fo60_1 rfl))) ?_
    rintro _ _ ⟨rfl, rfl⟩
    refine jM rfl rfl rfl (cB (dT h_5)) (jP (jZ 1 (v := .slice p.x.a0 p.t.cells.length p.x.c0) rfl rfl kz rfl)) ?_
    rintro _ _ ⟨rfl, rfl⟩
    refine jM rfl rfl rfl (cB (dT h_5)) (jP (jU (jQ fo60_1 rfl))) ?_
    rintro _ _ ⟨rfl, rfl⟩
    refine jM rfl rfl rfl (cB (dT h_5)) (jP (jZ 0 (v := .slice q.x.a0 q.t.cells.length q.x.c0) rfl rfl kz rfl)) ?_
    rintro _ _ ⟨rfl, rfl⟩
    refine jM rfl rfl rfl (cB (dT h_5)) (jI [] Tryz.call34 rfl (C_sameCells p.x.a0 q.x.a0 p.x.c0 q.x.c0 p.t.cells q.t.cells (by omega)) rfl (fun w hw => ⟨hw.seeOut_ hs_1 nM, hw.seeOut_ hs_2 nM⟩)) ?_
    rintro _ _ ⟨_, ⟨rfl, rfl⟩, rfl⟩
    refine jA (jh (v := .bool (decide (p.t.cells = q.t.cells))) (cB (dT h_5)) rfl) <| jA (jD (v := .bool (decide (p.t.cells = q.t.cells))) rfl) ?_
    by_cases h_6 : p.t.cells = q.t.cells
    · refine jM rfl rfl rfl (cB (dT h_6)) (jP (jU (jQ fo60_2 rfl))) ?_
      rintro _ _ ⟨rfl, rfl⟩
      refine jM rfl rfl rfl (cB (dT h_6)) (jP (jZ 1 (v := .bool p.t.whole) rfl rfl gI rfl)) ?_
      rintro _ _ ⟨rfl, rfl⟩
      refine jM rfl rfl rfl (cB (dT h_6)) (jP (jU (jQ fo60_2 rfl))) ?_
      rintro _ _ ⟨rfl, rfl⟩
      refine jM rfl rfl rfl (cB (dT h_6)) (jP (jZ 0 (v := .bool q.t.whole) rfl rfl gI rfl)) ?_
      rintro _ _ ⟨rfl, rfl⟩
      refine jM rfl rfl rfl (cB (dT h_6)) (jP (jU (PO.eqlB gJ rfl rfl))) ?_
      rintro _ _ ⟨rfl, rfl⟩
      refine jA (jh (v := .bool (decide (p.t.whole = q.t.whole))) (cB (dT h_6)) rfl) <| jA (jG (v := .bool (decide (p.t.whole = q.t.whole))) rfl) <| jE <| jB <| jN <| jV (.inl rfl) rfl (jJ (v := .bool (decide (p.t.whole = q.t.whole))) rfl) (List.nil_sublist _) ?_
      refine ⟨cB (decide_eq_decide.2 ?_), rfl⟩
      rw [sameO]
      simp_all
    refine jS (b := false) rfl rfl rfl (cB (dF h_6)) <| jS (b := false) rfl rfl rfl (cB (dF h_6)) <| jS (b := false) rfl rfl rfl (cB (dF h_6)) <| jS (b := false) rfl rfl rfl (cB (dF h_6)) <| jS (b := false) rfl rfl rfl (cB (dF h_6)) <| jA (ji (v := .bool false) (cB (dF h_6)) rfl) <| jA (jG (v := .bool false) rfl) <| jE <| jB <| jN ?_
    refine jV (.inl rfl) rfl (jJ (v := .bool false) rfl) (List.nil_sublist _) ?_
    refine ⟨cB (dF (fun h_ => ?_)).symm, rfl⟩
    have h2_ := sameO.1 h_
    simp_all
  refine jS (b := false) rfl rfl rfl (cB (dF h_5)) <| jS (b := false) rfl rfl rfl (cB (dF h_5)) <| jS (b := false) rfl rfl rfl (cB (dF h_5)) <| jS (b := false) rfl rfl rfl (cB (dF h_5)) <| jS (b := false) rfl rfl rfl (cB (dF h_5)) <| jA (ji (v := .bool false) (cB (dF h_5)) rfl) <| jA (jD (v := .bool false) rfl) <| jS (b := false) rfl rfl rfl (cB rfl) <| jS (b := false) rfl rfl rfl (cB rfl) <| jS (b := false) rfl rfl rfl (cB rfl) ?_
  refine jS (b := false) rfl rfl rfl (cB rfl) <| jS (b := false) rfl rfl rfl (cB rfl) <| jA (ji (v := .bool false) (cB rfl) rfl) <| jA (jG (v := .bool false) rfl) <| jE <| jB <| jN <| jV (.inl rfl) rfl (jJ (v := .bool false) rfl) (List.nil_sublist _) ?_
  refine ⟨cB (dF (fun h_ => ?_)).symm, rfl⟩
  have h2_ := sameO.1 h_
  simp_all

theorem Y_sameSlots (a b : Option Addr) (c c' : Nat) (s t : List OX) (hn : s.length ≤ 9223372036854775807) (hl : ∀ q ∈ s, q.t.lim 1000000000) :
    Ct Tryz.prog 90 [.slice a s.length c, .slice b t.length c'] [] (fun w => SeesA w (rdsOS a c s) ∧ SeesA w (rdsOS b c' t)) (fun r A' => r = .bool (decide (s.map OX.t = t.map OX.t)) ∧ A' = []) := by
  refine Ct.intro Tryz.func90 rfl Tryz.ntmps90 (lb rfl) fun w0 hpre => ?_
  have hs_1 : Sees w0 (.slice a s.length c) 3 s.length (s.flatMap encO) := (hpre.1).head
  have hi_2 : SeesA w0 (s.flatMap rdsO) := (hpre.1).tail
  have hs_3 : Sees w0 (.slice b t.length c') 3 t.length (t.flatMap encO) := (hpre.2).head
  have hi_4 : SeesA w0 (t.flatMap rdsO) := (hpre.2).tail
  refine jC <| jF <| jA (jG (v := .bool false) rfl) <| jE <| jB <| jC <| jC <| jF <| jA (jD (v := .slice a s.length c) rfl) <| jA (jr km rfl) ?_
  refine jA (jD (v := .slice b t.length c') rfl) <| jA (jr km rfl) <| jA (kS rfl rfl) <| jE <| jB ?_
  by_cases h_5 : ((s.length : Nat) : Int) = ((t.length : Nat) : Int)
  · have hlen := h_5
    refine jR (cB (cN (dT h_5))) <| jT <| jB <| jC <| jC <| jF <| jA (jG (v := iv 0) rfl) <| jE <| jB <| jf ?_
    refine kD (fun k_ e_ L_ => ∃ j : Nat, (j ≤ s.length) ∧ ((s.take j).map OX.t = (t.take j).map OX.t) ∧ (s.length = t.length) ∧ e_ 0 = .slice a s.length c ∧ e_ 1 = .slice b t.length c' ∧ e_ 5 = nv j ∧ L_ = [] ∧ k_ = s.length - j) _ ⟨0, by omega, rfl, by omega, rfl, rfl, rfl, rfl, rfl⟩ ?_
    rintro _ e_6 _ ⟨j, hj, hE, hln, he_7, he_8, he_9, rfl, rfl⟩
    refine jC <| jC <| jF <| jA (jD (v := nv j) he_9) <| jA (jD (v := .slice a s.length c) he_7) <| jA (jr km rfl) <| jA (jl rfl rfl) <| jE <| jB ?_
    by_cases h_10 : ((j : Nat) : Int) < ((s.length : Nat) : Int)
    · have hlt : j < s.length := by omega
      refine jW (cB (dT h_10)) <| jT <| jB <| jC <| jf <| jC <| kJ [] 1000 mixed (by simp) <| jL 0 rfl (jD (v := .slice a s.length c) he_7) <| jL 1 rfl (jD (v := nv j) he_9) ?_
      obtain ⟨hr_11, hr_11b, -⟩ := sees_some hs_1 (by omega)
      refine jL 2 rfl (jk (i := j) km kj hr_11 hr_11b rfl rfl (by omega)) ?_
      have hi_12 := SeesA.elem hi_2 o0 (show j < s.length by omega)
      have hs_13 := seesO hi_12
      refine jw 3 rfl (kX (vs := [iv ((s.getD j o0).t.seq), .slice ((s.getD j o0).x.a0) ((s.getD j o0).t.cells.length) ((s.getD j o0).x.c0), .bool ((s.getD j o0).t.whole)]) hs_1 nM rfl gB kj (flat_take encO_len o0 s j (by omega)) rfl (by decide)) <| jL 4 rfl (jD (v := .slice b t.length c') he_8) <| jL 5 rfl (jD (v := nv j) he_9) ?_
      obtain ⟨hr_14, hr_14b, -⟩ := sees_some hs_3 (by omega)
      refine jL 6 rfl (jk (i := j) km kj hr_14 hr_14b rfl rfl (by omega)) ?_
      have hi_15 := SeesA.elem hi_4 o0 (show j < t.length by omega)
      have hs_16 := seesO hi_15
      refine jw 7 rfl (kX (vs := [iv ((t.getD j o0).t.seq), .slice ((t.getD j o0).x.a0) ((t.getD j o0).t.cells.length) ((t.getD j o0).x.c0), .bool ((t.getD j o0).t.whole)]) hs_3 nM rfl gB kj (flat_take encO_len o0 t j (by omega)) rfl (by decide)) <| jj (i := 8) ?_
      refine jz rfl rfl (jI [] Tryz.call132 rfl (Y_sameSlot (s.getD j o0) (t.getD j o0) (hl _ (getD_mem (by omega)))) rfl (fun w hw => ⟨hw.seeOutA hi_12 nMA, hw.seeOutA hi_15 nMA⟩)) ?_
      rintro _ _ ⟨_, ⟨rfl, rfl⟩, rfl⟩
      refine ⟨(fun _ h => by cases h), ?_⟩
      refine jL 9 rfl (jp rfl) <| kI (by kernel_rfl) <| jB ?_
      by_cases h_17 : (s.getD j o0).t = (t.getD j o0).t
      · have heq := h_17
        refine jR (cB (cN (dT h_17))) <| jT <| jm <| jB <| jF <| jA (jD (v := nv j) he_9) <| jA (jc (c := ((j + 1 : Nat) : Int)) rfl rfl (wr (by omega))) <| jA (jG (v := iv ((j + 1 : Nat) : Int)) rfl) <| jE ?_
        refine jq (s.length - (j + 1)) (by omega) ⟨j + 1, by omega, take_succM_eq o0 hE hlt hln heq, hln, he_7, he_8, rfl, rfl, rfl⟩
      have hne := h_17
      refine jW (cB (cN (dF h_17))) <| jC <| jF <| jA (jG (v := .bool false) rfl) <| jE <| jB <| jN <| jv <| jX <| jX ?_
      refine jv <| jX <| jV (.inl rfl) rfl (jJ (v := .bool false) rfl) (List.nil_sublist _) ?_
      refine ⟨?_, rfl⟩
      rw [dF (fun h => hne (getM_eq o0 h hlt hln))]
    refine jR (cB (dF h_10)) <| jx <| jb <| jb <| jy <| jB <| jC <| jF <| jA (jG (v := .bool true) rfl) <| jE ?_
    refine jB <| jN <| jV (.inl rfl) rfl (jJ (v := .bool true) rfl) (List.nil_sublist _) ?_
    refine ⟨?_, rfl⟩
    rw [dT (take_allM_eq hE (by omega) (by omega))]
  have hlen := h_5
  refine jW (cB (cN (dF h_5))) <| jC <| jF <| jA (jG (v := .bool false) rfl) <| jE <| jB <| jN <| jX <| jV (.inl rfl) rfl (jJ (v := .bool false) rfl) (List.nil_sublist _) ?_
  refine ⟨?_, rfl⟩
  rw [dF (fun h => by have h2 := congrArg List.length h; rw [List.length_map, List.length_map] at h2; omega)]

theorem Y_sameDisk (d e : DX) (hl : d.dat.lim 1000000000) :
    Ct Tryz.prog 39 [.agg #[.slice d.a d.l.length d.c, str d.jt, .int .i64 d.js], .agg #[.slice e.a e.l.length e.c, str e.jt, .int .i64 e.js]] [] (fun w => SeesA w (rdsD d) ∧ SeesA w (rdsD e)) (fun v A' => v = .bool (decide (d.dat = e.dat)) ∧ A' = []) := by
  refine Ct.intro Tryz.func39 rfl Tryz.ntmps39 (lb rfl) fun w0 hpre => ?_
  have hs_1 : Sees w0 (.slice d.a d.l.length d.c) 3 d.l.length (d.l.flatMap encO) := (hpre.1).head
  have hi_2 : SeesA w0 (d.l.flatMap rdsO) := (hpre.1).tail
  have hs_3 : Sees w0 (.slice e.a e.l.length e.c) 3 e.l.length (e.l.flatMap encO) := (hpre.2).head
  have hi_4 : SeesA w0 (e.l.flatMap rdsO) := (hpre.2).tail
  have hlm : d.l.length ≤ 1000000000 ∧ ∀ q ∈ d.l, q.t.lim 1000000000 := ⟨by have := hl.l0; simpa only [DX.dat, List.length_map] using this, fun q hq => hl.l1 _ (List.mem_map_of_mem hq)⟩
  have hlm0 := hlm.1
  refine jC <| jF ?_
  refine jH rfl (kG (cs := [.slice d.a d.l.length d.c, str d.jt, iv d.js]) rfl rfl) ?_
  rintro _ _ ⟨b_5, rfl, rfl⟩
  refine jH rfl (kG (cs := [.slice e.a e.l.length e.c, str e.jt, iv e.js]) rfl rfl) ?_
  rintro _ _ ⟨b_6, rfl, rfl⟩
  refine jA (jG (v := .bool false) rfl) <| jE <| jB <| jC <| jF <| jA (jQ fo31_0 rfl) <| jK (jZ 1 (v := .slice d.a d.l.length d.c) rfl rfl ks rfl) <| jA (jQ fo31_0 rfl) <| jK (jZ 0 (v := .slice e.a e.l.length e.c) rfl rfl ks rfl) ?_
  refine jH rfl (jI [] Tryz.call90 rfl (Y_sameSlots d.a e.a d.c e.c d.l e.l (by omega) hlm.2) rfl (fun w hw => ⟨SeesA.cons (hw.seeOut_ hs_1 nM) (hw.seeOutA hi_2 nMA), SeesA.cons (hw.seeOut_ hs_3 nM) (hw.seeOutA hi_4 nMA)⟩)) ?_
  rintro _ _ ⟨_, ⟨rfl, rfl⟩, rfl⟩
  refine jA (jD (v := .bool (decide (d.l.map OX.t = e.l.map OX.t))) rfl) ?_
  by_cases h_7 : d.l.map OX.t = e.l.map OX.t
  · refine jM rfl rfl rfl (cB (dT h_7)) (jP (jU (jQ fo31_1 rfl))) ?_
    rintro _ _ ⟨rfl, rfl⟩
    refine jM rfl rfl rfl (cB (dT h_7)) (jP (jO 1 (vs := [str d.jt, iv d.js]) rfl rfl kp kl rfl rfl)) ?_
    rintro _ _ ⟨rfl, rfl⟩
    refine jM rfl rfl rfl (cB (dT h_7)) (jP (jU (jQ fo31_1 rfl))) ?_
    rintro _ _ ⟨rfl, rfl⟩
    refine jM rfl rfl rfl (cB (dT h_7)) (jP (jO 0 (vs := [str e.jt, iv e.js]) rfl rfl kp kl rfl rfl)) ?_
    rintro _ _ ⟨rfl, rfl⟩
    refine jM rfl rfl rfl (cB (dT h_7)) (jP (jU (PO.eqlJ rfl rfl))) ?_
    rintro _ _ ⟨rfl, rfl⟩
    refine jA (jh (v := .bool (decide (d.jt = e.jt ∧ d.js = e.js))) (cB (dT h_7)) rfl) <| jA (jG (v := .bool (decide (d.jt = e.jt ∧ d.js = e.js))) rfl) <| jE <| jB <| jN <| jV (.inl rfl) rfl (jJ (v := .bool (decide (d.jt = e.jt ∧ d.js = e.js))) rfl) (List.nil_sublist _) ?_
    refine ⟨cB (decide_eq_decide.2 ?_), rfl⟩
    rw [sameDX]
    simp_all
  refine jS (b := false) rfl rfl rfl (cB (dF h_7)) <| jS (b := false) rfl rfl rfl (cB (dF h_7)) <| jS (b := false) rfl rfl rfl (cB (dF h_7)) <| jS (b := false) rfl rfl rfl (cB (dF h_7)) <| jS (b := false) rfl rfl rfl (cB (dF h_7)) <| jA (ji (v := .bool false) (cB (dF h_7)) rfl) <| jA (jG (v := .bool false) rfl) <| jE <| jB <| jN ?_
  refine jV (.inl rfl) rfl (jJ (v := .bool false) rfl) (List.nil_sublist _) ?_
  refine ⟨cB (dF (fun h_ => ?_)).symm, rfl⟩
  have h2_ := sameDX.1 h_
  simp_all

end Go.Proofs.YtjncpgcccgdeiaaGreatDoor

set_option linter.unusedSimpArgs false
set_option linter.unusedVariables false
set_option linter.unnecessarySimpa false
namespace Go.Proofs.YtjncpgcccgdeiaaGreatDoor
open Go Go.RowKit
@[reducible] def cb (b : Nat) (a : Option Addr) (c : Nat) (l : Str) (p : Nat) (s : Int) : Res := bk b 133 [.slice a l.length c, .int .i64 ((p : Nat) : Int), .int .i64 s]
/-- The bytes that a cursor goes over can be read, and none of these resources holds them. -/
def seesC (w : World) (a : Option Addr) (c : Nat) (l : Str) (A : List Res) : Prop := Sees w (.slice a l.length c) 1 l.length (l.map encB) ∧ ∀ i, (Value.slice a l.length c).ownBlock = some i → i ∉ idsOf A
theorem atB {l : Str} {i : Nat} (h : i < l.length) : (l.map encB)[i * 1]? = some (.int .u8 (((l.getD i 0).toNat : Nat) : Int)) := by simp [h, encB]
theorem and_bnd (x m : Int) (h0 : 0 ≤ m) (h1 : m < 9223372036854775808) : 0 ≤ bits .and .i64 x m ∧ bits .and .i64 x m ≤ m := by
  have hm : (BitVec.ofInt 64 m).toNat = m.toNat := by
    rw [BitVec.toNat_ofInt]
    congr 1
    omega
  have hle : ((BitVec.ofInt 64 x) &&& (BitVec.ofInt 64 m)).toNat ≤ m.toNat := by
    rw [BitVec.toNat_and, hm]
    exact Nat.and_le_right
  have hw : bits .and .i64 x m = ((((BitVec.ofInt 64 x) &&& (BitVec.ofInt 64 m)).toNat : Nat) : Int) := by
    unfold bits
    show IntKind.i64.wrap ((((BitVec.ofInt 64 x) &&& (BitVec.ofInt 64 m)).toNat : Nat) : Int) = _
    exact wr (by omega)
  rw [hw]
  omega
theorem St.apart {w0 w : World} {D : List Nat} {L A : List Res} {v : Value} {k m : Nat} {vs : List Value} (hw : St w0 D L w) (hs : Sees w0 v k m vs) (hD : ∀ b, v.ownBlock = some b → b ∉ D) (hA : ∀ r ∈ A, r ∈ L) :
    ∀ j, v.ownBlock = some j → j ∉ idsOf A := fun j hj hin => by
  obtain ⟨r, hr, hjr⟩ := mem_idsOf.1 hin
  rcases hs.2 with ⟨rfl, _⟩ | ⟨b, o, cap, hv, h1, h2, h3, h4⟩
  · simp [Value.ownBlock] at hj
  · rcases hw.fresh j (mem_idsOf.2 ⟨r, hA r hr, hjr⟩) with h | h
    · exact hD j hj h
    · subst hv
      simp [Value.ownBlock] at hj
      omega
theorem mkB_flat (n : Nat) : (List.replicate n [Value.int .u8 0]).flatten = (List.replicate n (0 : UInt8)).map encB := by
  induction n with
  | zero => rfl
  | succ n ih => rw [List.replicate_succ, List.flatten_cons, ih, List.replicate_succ]; rfl
/-- What PutKey keeps. -/
def okC' (n k : Nat) (s : List Cell) : Prop := s.length ≤ n ∧ ∀ c ∈ s, c.1.length ≤ k ∧ c.2.length ≤ k
theorem okC'.put {n k : Nat} {s : List Cell} (h : okC' n k s) (key val : Str) (h1 : key.length ≤ k) (h2 : val.length ≤ k) : okC' (n + 1) k (putKey s key val) := by
  refine ⟨Nat.le_trans (putKey_len s key val) (by have := h.1; omega), fun c hc => ?_⟩
  rcases putKey_mem (s := s) hc with hc | ⟨rfl, _, _⟩
  · exact h.2 c hc
  · exact ⟨h1, h2⟩
theorem okC'.mono {n n' k : Nat} {s : List Cell} (h : okC' n k s) (hn : n ≤ n') : okC' n' k s := ⟨Nat.le_trans h.1 hn, h.2⟩
attribute [local irreducible] JL JC JQ JO LO PO JA JX Ct

theorem D_byte (qb : Nat) (qa : Option Addr) (qc : Nat) (ql : Str) (qp : Nat) (qs : Int) (hql : ql.length ≤ 1048576) (hqp : qp ≤ ql.length)  :
    Ct Tryz.prog 119 [.pointer (some ⟨qb, 0, none⟩)] [cb qb qa qc ql qp qs] (fun w => seesC w qa qc ql [cb qb qa qc ql qp qs]) (fun v A' => ∃ qp' qs' r0, qp' ≤ ql.length ∧ (r0 ≤ 255) ∧ v = .int .i64 ((r0 : Nat) : Int) ∧ A' = [cb qb qa qc ql qp' qs']) := by
  refine Ct.intro Tryz.func119 rfl Tryz.ntmps119 (lb rfl) fun w0 hpre => ?_
  have hs_qa : Sees w0 _ _ _ _ := hpre.1
  refine jC <| jF <| jA (jG (v := iv 0) rfl) <| jE <| jB <| jC <| jF <| jA (jD (v := .pointer (some ⟨qb, 0, none⟩)) rfl) <| jA (jD (v := .pointer (some ⟨qb, 0, none⟩)) rfl) <| jA (PO.nilCheck rfl) ?_
  refine jA (jQ fo133_2 rfl) <| jK (jZ 0 (v := iv qs) rfl rfl kq rfl) <| jA (PO.mulW rfl rfl) <| jA (PO.addW rfl rfl) <| jA (PO.nilCheck rfl) <| jA (jQ fo133_2 rfl) ?_
  refine jH rfl (ja 0 (vs := [iv (IntKind.i64.wrap ((IntKind.i64.wrap (qs * 6364136223846793005)) + 1442695040888963407))]) (cs' := [.slice qa ql.length qc, nv qp, iv (IntKind.i64.wrap ((IntKind.i64.wrap (qs * 6364136223846793005)) + 1442695040888963407))]) rfl rfl rfl rfl gA rfl rfl (lb rfl) rfl) ?_
  rintro _ _ rfl
  refine jE <| jB <| jC <| kJ [cb qb qa qc ql qp (IntKind.i64.wrap ((IntKind.i64.wrap (qs * 6364136223846793005)) + 1442695040888963407))] 12 mixed (by simp) <| jL 0 rfl (jD (v := .pointer (some ⟨qb, 0, none⟩)) rfl) <| jL 1 rfl (PO.nilCheck rfl) <| jL 2 rfl (jQ fo133_2 rfl) <| jw 3 rfl (jZ 0 (v := iv (IntKind.i64.wrap ((IntKind.i64.wrap (qs * 6364136223846793005)) + 1442695040888963407))) rfl rfl kq rfl) <| jL 4 rfl (PO.shr rfl rfl (by decide) (by decide)) <| jL 5 rfl (jD (v := .pointer (some ⟨qb, 0, none⟩)) rfl) ?_
  refine jL 6 rfl (PO.nilCheck rfl) <| jL 7 rfl (jQ fo133_2 rfl) <| jw 8 rfl (jZ 0 (v := iv (IntKind.i64.wrap ((IntKind.i64.wrap (qs * 6364136223846793005)) + 1442695040888963407))) rfl rfl kq rfl) <| jL 9 rfl (PO.shr rfl rfl (by decide) (by decide)) <| jL 10 rfl (PO.bits (by simp) rfl rfl) <| jL 11 rfl (PO.bits (by simp) rfl rfl) <| jL 12 rfl (jG (v := iv (Go.bits .and .i64 (Go.bits .xor .i64 ((IntKind.i64.wrap ((IntKind.i64.wrap (qs * 6364136223846793005)) + 1442695040888963407)) / 2 ^ (33 : Int).toNat) ((IntKind.i64.wrap ((IntKind.i64.wrap (qs * 6364136223846793005)) + 1442695040888963407)) / 2 ^ (45 : Int).toNat)) 255)) rfl) <| kI (by kernel_rfl) <| jB <| jC ?_
  refine jC <| kJ [cb qb qa qc ql qp (IntKind.i64.wrap ((IntKind.i64.wrap (qs * 6364136223846793005)) + 1442695040888963407))] 1000 mixed (by simp) <| jL 0 rfl (jD (v := .pointer (some ⟨qb, 0, none⟩)) rfl) <| jL 1 rfl (PO.nilCheck rfl) <| jL 2 rfl (jQ fo133_1 rfl) <| jw 3 rfl (jZ 0 (v := nv qp) rfl rfl kq rfl) <| jL 4 rfl (jD (v := .pointer (some ⟨qb, 0, none⟩)) rfl) <| jL 5 rfl (PO.nilCheck rfl) <| jL 6 rfl (jQ fo133_0 rfl) <| jw 7 rfl (jZ 0 (v := .slice qa ql.length qc) rfl rfl Tryz.isAgg39 rfl) ?_
  refine jL 8 rfl (jr kr rfl) <| jL 9 rfl (jl rfl rfl) <| kI (by kernel_rfl) <| jB ?_
  by_cases h_1 : ((qp : Nat) : Int) < ((ql.length : Nat) : Int)
  · have hu8 := UInt8.toNat_lt (ql.getD qp 0)
    refine jW (cB (dT h_1)) <| jC <| kJ [cb qb qa qc ql qp (IntKind.i64.wrap ((IntKind.i64.wrap (qs * 6364136223846793005)) + 1442695040888963407))] 14 mixed (by simp) <| jL 0 rfl (jD (v := iv (Go.bits .and .i64 (Go.bits .xor .i64 ((IntKind.i64.wrap ((IntKind.i64.wrap (qs * 6364136223846793005)) + 1442695040888963407)) / 2 ^ (33 : Int).toNat) ((IntKind.i64.wrap ((IntKind.i64.wrap (qs * 6364136223846793005)) + 1442695040888963407)) / 2 ^ (45 : Int).toNat)) 255)) rfl) <| jL 1 rfl (jD (v := .pointer (some ⟨qb, 0, none⟩)) rfl) <| jL 2 rfl (PO.nilCheck rfl) <| jL 3 rfl (jQ fo133_0 rfl) <| jw 4 rfl (jZ 0 (v := .slice qa ql.length qc) rfl rfl Tryz.isAgg39 rfl) <| jL 5 rfl (jD (v := .pointer (some ⟨qb, 0, none⟩)) rfl) <| jL 6 rfl (PO.nilCheck rfl) ?_
    refine jL 7 rfl (jQ fo133_1 rfl) <| jw 8 rfl (jZ 0 (v := nv qp) rfl rfl kq rfl) ?_
    obtain ⟨hr_2, hr_2b, -⟩ := sees_some hs_qa (by omega)
    refine jL 9 rfl (jk (i := qp) kr gH hr_2 hr_2b rfl rfl (by omega)) <| jw 10 rfl (kY (v := .int .u8 (((ql.getD qp 0).toNat : Nat) : Int)) hs_qa (hpre.2) rfl Tryz.isAgg5 (atB (by omega))) <| jL 11 rfl (PO.convI (c := (((ql.getD qp 0).toNat : Nat) : Int)) kv gC rfl (wr (by omega))) <| jL 12 rfl (PO.addW rfl rfl) <| jL 13 rfl (PO.bits (by simp) rfl rfl) <| jL 14 rfl (jG (v := iv (Go.bits .and .i64 (IntKind.i64.wrap ((Go.bits .and .i64 (Go.bits .xor .i64 ((IntKind.i64.wrap ((IntKind.i64.wrap (qs * 6364136223846793005)) + 1442695040888963407)) / 2 ^ (33 : Int).toNat) ((IntKind.i64.wrap ((IntKind.i64.wrap (qs * 6364136223846793005)) + 1442695040888963407)) / 2 ^ (45 : Int).toNat)) 255) + (((ql.getD qp 0).toNat : Nat) : Int))) 255)) rfl) <| kI (by kernel_rfl) <| jB <| jF <| jA (jD (v := .pointer (some ⟨qb, 0, none⟩)) rfl) ?_
    refine jA (jD (v := .pointer (some ⟨qb, 0, none⟩)) rfl) <| jA (PO.nilCheck rfl) <| jA (jQ fo133_1 rfl) <| jK (jZ 0 (v := nv qp) rfl rfl kq rfl) <| jA (jc (c := ((qp + 1 : Nat) : Int)) rfl rfl (wr (by omega))) <| jA (PO.nilCheck rfl) <| jA (jQ fo133_1 rfl) ?_
    refine jH rfl (ja 0 (vs := [iv ((qp + 1 : Nat) : Int)]) (cs' := [.slice qa ql.length qc, iv ((qp + 1 : Nat) : Int), iv (IntKind.i64.wrap ((IntKind.i64.wrap (qs * 6364136223846793005)) + 1442695040888963407))]) rfl rfl rfl rfl gA rfl rfl (lb rfl) rfl) ?_
    rintro _ _ rfl
    refine jE <| jB <| jC <| jF <| jA (jD (v := iv (Go.bits .and .i64 (IntKind.i64.wrap ((Go.bits .and .i64 (Go.bits .xor .i64 ((IntKind.i64.wrap ((IntKind.i64.wrap (qs * 6364136223846793005)) + 1442695040888963407)) / 2 ^ (33 : Int).toNat) ((IntKind.i64.wrap ((IntKind.i64.wrap (qs * 6364136223846793005)) + 1442695040888963407)) / 2 ^ (45 : Int).toNat)) 255) + (((ql.getD qp 0).toNat : Nat) : Int))) 255)) rfl) <| jA (jG (v := iv (Go.bits .and .i64 (IntKind.i64.wrap ((Go.bits .and .i64 (Go.bits .xor .i64 ((IntKind.i64.wrap ((IntKind.i64.wrap (qs * 6364136223846793005)) + 1442695040888963407)) / 2 ^ (33 : Int).toNat) ((IntKind.i64.wrap ((IntKind.i64.wrap (qs * 6364136223846793005)) + 1442695040888963407)) / 2 ^ (45 : Int).toNat)) 255) + (((ql.getD qp 0).toNat : Nat) : Int))) 255)) rfl) <| jE <| jB <| jN <| jV (.inl rfl) rfl (jJ (v := iv (Go.bits .and .i64 (IntKind.i64.wrap ((Go.bits .and .i64 (Go.bits .xor .i64 ((IntKind.i64.wrap ((IntKind.i64.wrap (qs * 6364136223846793005)) + 1442695040888963407)) / 2 ^ (33 : Int).toNat) ((IntKind.i64.wrap ((IntKind.i64.wrap (qs * 6364136223846793005)) + 1442695040888963407)) / 2 ^ (45 : Int).toNat)) 255) + (((ql.getD qp 0).toNat : Nat) : Int))) 255)) rfl) (List.Sublist.refl _) ?_
    have hbb := and_bnd (IntKind.i64.wrap ((Go.bits .and .i64 (Go.bits .xor .i64 ((IntKind.i64.wrap ((IntKind.i64.wrap (qs * 6364136223846793005)) + 1442695040888963407)) / 2 ^ (33 : Int).toNat) ((IntKind.i64.wrap ((IntKind.i64.wrap (qs * 6364136223846793005)) + 1442695040888963407)) / 2 ^ (45 : Int).toNat)) 255) + (((ql.getD qp 0).toNat : Nat) : Int))) 255 (by decide) (by decide)
    obtain ⟨r0, hr0⟩ : ∃ r0 : Nat, Go.bits .and .i64 (IntKind.i64.wrap ((Go.bits .and .i64 (Go.bits .xor .i64 ((IntKind.i64.wrap ((IntKind.i64.wrap (qs * 6364136223846793005)) + 1442695040888963407)) / 2 ^ (33 : Int).toNat) ((IntKind.i64.wrap ((IntKind.i64.wrap (qs * 6364136223846793005)) + 1442695040888963407)) / 2 ^ (45 : Int).toNat)) 255) + (((ql.getD qp 0).toNat : Nat) : Int))) 255 = ((r0 : Nat) : Int) := ⟨(Go.bits .and .i64 (IntKind.i64.wrap ((Go.bits .and .i64 (Go.bits .xor .i64 ((IntKind.i64.wrap ((IntKind.i64.wrap (qs * 6364136223846793005)) + 1442695040888963407)) / 2 ^ (33 : Int).toNat) ((IntKind.i64.wrap ((IntKind.i64.wrap (qs * 6364136223846793005)) + 1442695040888963407)) / 2 ^ (45 : Int).toNat)) 255) + (((ql.getD qp 0).toNat : Nat) : Int))) 255).toNat, by omega⟩
    rw [hr0] at hbb
    exact ⟨(qp + 1), (IntKind.i64.wrap ((IntKind.i64.wrap (qs * 6364136223846793005)) + 1442695040888963407)), r0, by omega, by omega, congrArg (Value.int .i64) hr0, rfl⟩
  refine jR (cB (dF h_1)) <| jT <| jB <| jC <| jF <| jA (jD (v := iv (Go.bits .and .i64 (Go.bits .xor .i64 ((IntKind.i64.wrap ((IntKind.i64.wrap (qs * 6364136223846793005)) + 1442695040888963407)) / 2 ^ (33 : Int).toNat) ((IntKind.i64.wrap ((IntKind.i64.wrap (qs * 6364136223846793005)) + 1442695040888963407)) / 2 ^ (45 : Int).toNat)) 255)) rfl) <| jA (jG (v := iv (Go.bits .and .i64 (Go.bits .xor .i64 ((IntKind.i64.wrap ((IntKind.i64.wrap (qs * 6364136223846793005)) + 1442695040888963407)) / 2 ^ (33 : Int).toNat) ((IntKind.i64.wrap ((IntKind.i64.wrap (qs * 6364136223846793005)) + 1442695040888963407)) / 2 ^ (45 : Int).toNat)) 255)) rfl) <| jE <| jB <| jN ?_
  refine jV (.inl rfl) rfl (jJ (v := iv (Go.bits .and .i64 (Go.bits .xor .i64 ((IntKind.i64.wrap ((IntKind.i64.wrap (qs * 6364136223846793005)) + 1442695040888963407)) / 2 ^ (33 : Int).toNat) ((IntKind.i64.wrap ((IntKind.i64.wrap (qs * 6364136223846793005)) + 1442695040888963407)) / 2 ^ (45 : Int).toNat)) 255)) rfl) (List.Sublist.refl _) ?_
  have hbb := and_bnd (Go.bits .xor .i64 ((IntKind.i64.wrap ((IntKind.i64.wrap (qs * 6364136223846793005)) + 1442695040888963407)) / 2 ^ (33 : Int).toNat) ((IntKind.i64.wrap ((IntKind.i64.wrap (qs * 6364136223846793005)) + 1442695040888963407)) / 2 ^ (45 : Int).toNat)) 255 (by decide) (by decide)
  obtain ⟨r0, hr0⟩ : ∃ r0 : Nat, Go.bits .and .i64 (Go.bits .xor .i64 ((IntKind.i64.wrap ((IntKind.i64.wrap (qs * 6364136223846793005)) + 1442695040888963407)) / 2 ^ (33 : Int).toNat) ((IntKind.i64.wrap ((IntKind.i64.wrap (qs * 6364136223846793005)) + 1442695040888963407)) / 2 ^ (45 : Int).toNat)) 255 = ((r0 : Nat) : Int) := ⟨(Go.bits .and .i64 (Go.bits .xor .i64 ((IntKind.i64.wrap ((IntKind.i64.wrap (qs * 6364136223846793005)) + 1442695040888963407)) / 2 ^ (33 : Int).toNat) ((IntKind.i64.wrap ((IntKind.i64.wrap (qs * 6364136223846793005)) + 1442695040888963407)) / 2 ^ (45 : Int).toNat)) 255).toNat, by omega⟩
  rw [hr0] at hbb
  exact ⟨qp, (IntKind.i64.wrap ((IntKind.i64.wrap (qs * 6364136223846793005)) + 1442695040888963407)), r0, by omega, by omega, congrArg (Value.int .i64) hr0, rfl⟩

theorem D_below (qb : Nat) (qa : Option Addr) (qc : Nat) (ql : Str) (qp : Nat) (qs : Int) (hql : ql.length ≤ 1048576) (hqp : qp ≤ ql.length) (k : Int) (hk : -9223372036854775808 ≤ k ∧ k ≤ 9223372036854775807) :
    Ct Tryz.prog 73 [.pointer (some ⟨qb, 0, none⟩), .int .i64 k] [cb qb qa qc ql qp qs] (fun w => seesC w qa qc ql [cb qb qa qc ql qp qs]) (fun v A' => ∃ qp' qs' r0, qp' ≤ ql.length ∧ (((r0 : Nat) : Int) < k ∨ r0 = 0) ∧ v = .int .i64 ((r0 : Nat) : Int) ∧ A' = [cb qb qa qc ql qp' qs']) := by
  refine Ct.intro Tryz.func73 rfl Tryz.ntmps73 (lb rfl) fun w0 hpre => ?_
  have hs_qa : Sees w0 _ _ _ _ := hpre.1
  refine jC <| jF <| jA (jG (v := iv 0) rfl) <| jE <| jB <| jC <| jC <| jF <| jA (jD (v := iv k) rfl) <| jA (PO.leq rfl rfl) ?_
  refine jE <| jB ?_
  by_cases h_1 : k ≤ 0
  · refine jW (cB (dT h_1)) <| jC <| jF <| jA (jG (v := iv 0) rfl) <| jE <| jB <| jN <| jX <| jV (.inl rfl) rfl (jJ (v := iv 0) rfl) (List.Sublist.refl _) ?_
    exact ⟨qp, qs, 0, (by omega), (.inr rfl), rfl, rfl⟩
  obtain ⟨kk, hkk⟩ : ∃ kk : Nat, k = ((kk : Nat) : Int) := ⟨k.toNat, by omega⟩
  refine jR (cB (dF h_1)) <| jT <| jB <| jC <| jC <| jF <| jA (jD (v := nv kk) (congrArg (Value.int .i64) hkk)) <| jA (PO.leq rfl rfl) <| jE <| jB ?_
  by_cases h_2 : ((kk : Nat) : Int) ≤ 256
  · refine jW (cB (dT h_2)) <| jC <| jF <| jA (jD (v := .pointer (some ⟨qb, 0, none⟩)) rfl) ?_
    refine jH rfl (jI [0] Tryz.call119 rfl (D_byte qb qa qc ql qp qs (by omega) (by omega)) rfl (fun w hw => ⟨hw.seeOut_ hs_qa (hpre.2), hw.apart hs_qa (hpre.2) (by simp)⟩)) ?_
    rintro _ _ ⟨_, ⟨qp_3, qs_4, n_6, fq_5, f_7, rfl, rfl⟩, rfl⟩
    refine jA (jD (v := nv kk) (congrArg (Value.int .i64) hkk)) <| jA (PO.remN (c := ((n_6 % kk : Nat) : Int)) rfl rfl (by omega) (by omega) (by omega)) <| jA (jG (v := iv ((n_6 % kk : Nat) : Int)) rfl) <| jE <| jB <| jN <| jX <| jV (.inl rfl) rfl (jJ (v := iv ((n_6 % kk : Nat) : Int)) rfl) (List.Sublist.refl _) ?_
    exact ⟨qp_3, qs_4, (n_6 % kk), (by omega), (.inl (by have hm_ := Nat.mod_lt (n_6) (show 0 < kk by omega); omega)), rfl, rfl⟩
  refine jR (cB (dF h_2)) <| jT <| jB <| jC <| jF <| jA (jD (v := .pointer (some ⟨qb, 0, none⟩)) rfl) ?_
  refine jH rfl (jI [0] Tryz.call119 rfl (D_byte qb qa qc ql qp qs (by omega) (by omega)) rfl (fun w hw => ⟨hw.seeOut_ hs_qa (hpre.2), hw.apart hs_qa (hpre.2) (by simp)⟩)) ?_
  rintro _ _ ⟨_, ⟨qp_9, qs_10, n_12, fq_11, f_13, rfl, rfl⟩, rfl⟩
  refine jA (jG (v := nv n_12) rfl) <| jE <| jB <| jC <| jF <| jA (jD (v := .pointer (some ⟨qb, 0, none⟩)) rfl) ?_
  refine jH rfl (jI [0] Tryz.call119 rfl (D_byte qb qa qc ql qp_9 qs_10 (by omega) (by omega)) rfl (fun w hw => ⟨hw.seeOut_ hs_qa (hpre.2), hw.apart hs_qa (hpre.2) (by simp)⟩)) ?_
  rintro _ _ ⟨_, ⟨qp_15, qs_16, n_18, fq_17, f_19, rfl, rfl⟩, rfl⟩
  refine jA (jG (v := nv n_18) rfl) <| jE <| jB <| jC <| jF <| jA (jD (v := .pointer (some ⟨qb, 0, none⟩)) rfl) ?_
  refine jH rfl (jI [0] Tryz.call119 rfl (D_byte qb qa qc ql qp_15 qs_16 (by omega) (by omega)) rfl (fun w hw => ⟨hw.seeOut_ hs_qa (hpre.2), hw.apart hs_qa (hpre.2) (by simp)⟩)) ?_
  rintro _ _ ⟨_, ⟨qp_21, qs_22, n_24, fq_23, f_25, rfl, rfl⟩, rfl⟩
  refine jA (jG (v := nv n_24) rfl) <| jE <| jB <| jC <| jF <| jA (jD (v := .pointer (some ⟨qb, 0, none⟩)) rfl) ?_
  refine jH rfl (jI [0] Tryz.call119 rfl (D_byte qb qa qc ql qp_21 qs_22 (by omega) (by omega)) rfl (fun w hw => ⟨hw.seeOut_ hs_qa (hpre.2), hw.apart hs_qa (hpre.2) (by simp)⟩)) ?_
  rintro _ _ ⟨_, ⟨qp_27, qs_28, n_30, fq_29, f_31, rfl, rfl⟩, rfl⟩
  refine jA (jG (v := nv n_30) rfl) <| jE <| jB <| jC <| jF <| jA (jD (v := nv n_12) rfl) <| jA (PO.mul (c := ((n_12 * 16777216 : Nat) : Int)) rfl rfl (wr (by omega))) <| jA (jD (v := nv n_18) rfl) <| jA (PO.mul (c := ((n_18 * 65536 : Nat) : Int)) rfl rfl (wr (by omega))) <| jA (jc (c := (((n_12 * 16777216) + (n_18 * 65536) : Nat) : Int)) rfl rfl (wr (by omega))) ?_
  refine jA (jD (v := nv n_24) rfl) <| jA (PO.mul (c := ((n_24 * 256 : Nat) : Int)) rfl rfl (wr (by omega))) <| jA (jc (c := ((((n_12 * 16777216) + (n_18 * 65536)) + (n_24 * 256) : Nat) : Int)) rfl rfl (wr (by omega))) <| jA (jD (v := nv n_30) rfl) <| jA (jc (c := (((((n_12 * 16777216) + (n_18 * 65536)) + (n_24 * 256)) + n_30 : Nat) : Int)) rfl rfl (wr (by omega))) <| jA (jD (v := nv kk) (congrArg (Value.int .i64) hkk)) <| jA (PO.remN (c := ((((((n_12 * 16777216) + (n_18 * 65536)) + (n_24 * 256)) + n_30) % kk : Nat) : Int)) rfl rfl (by omega) (by omega) (by omega)) <| jA (jG (v := iv ((((((n_12 * 16777216) + (n_18 * 65536)) + (n_24 * 256)) + n_30) % kk : Nat) : Int)) rfl) <| jE <| jB ?_
  refine jN <| jV (.inl rfl) rfl (jJ (v := iv ((((((n_12 * 16777216) + (n_18 * 65536)) + (n_24 * 256)) + n_30) % kk : Nat) : Int)) rfl) (List.Sublist.refl _) ?_
  exact ⟨qp_27, qs_28, (((((n_12 * 16777216) + (n_18 * 65536)) + (n_24 * 256)) + n_30) % kk), (by omega), (.inl (by have hm_ := Nat.mod_lt (((((n_12 * 16777216) + (n_18 * 65536)) + (n_24 * 256)) + n_30)) (show 0 < kk by omega); omega)), rfl, rfl⟩

theorem D_once (qb : Nat) (qa : Option Addr) (qc : Nat) (ql : Str) (qp : Nat) (qs : Int) (hql : ql.length ≤ 1048576) (hqp : qp ≤ ql.length) (k : Int) (hk : -9223372036854775808 ≤ k ∧ k ≤ 9223372036854775807) :
    Ct Tryz.prog 99 [.pointer (some ⟨qb, 0, none⟩), .int .i64 k] [cb qb qa qc ql qp qs] (fun w => seesC w qa qc ql [cb qb qa qc ql qp qs]) (fun v A' => ∃ qp' qs' r0, qp' ≤ ql.length ∧ v = .bool r0 ∧ A' = [cb qb qa qc ql qp' qs']) := by
  refine Ct.intro Tryz.func99 rfl Tryz.ntmps99 (lb rfl) fun w0 hpre => ?_
  have hs_qa : Sees w0 _ _ _ _ := hpre.1
  refine jC <| jF <| jA (jG (v := .bool false) rfl) <| jE <| jB <| jC <| jF <| jA (jD (v := .pointer (some ⟨qb, 0, none⟩)) rfl) <| jA (jD (v := iv k) rfl) ?_
  refine jH rfl (jI [0] Tryz.call73 rfl (D_below qb qa qc ql qp qs (by omega) (by omega) k (by omega)) rfl (fun w hw => ⟨hw.seeOut_ hs_qa (hpre.2), hw.apart hs_qa (hpre.2) (by simp)⟩)) ?_
  rintro _ _ ⟨_, ⟨qp_1, qs_2, n_4, fq_3, f_5, rfl, rfl⟩, rfl⟩
  refine jA (kO rfl rfl) <| jA (jG (v := .bool (decide (((n_4 : Nat) : Int) = 0))) rfl) <| jE <| jB <| jN <| jV (.inl rfl) rfl (jJ (v := .bool (decide (((n_4 : Nat) : Int) = 0))) rfl) (List.Sublist.refl _) ?_
  exact ⟨qp_1, qs_2, (decide (((n_4 : Nat) : Int) = 0)), (by omega), rfl, rfl⟩

theorem D_pick (qb : Nat) (qa : Option Addr) (qc : Nat) (ql : Str) (qp : Nat) (qs : Int) (la : Option Addr) (lc : Nat) (l : List Str) (hql : ql.length ≤ 1048576) (hqp : qp ≤ ql.length)  (hl0 : 0 < l.length) (hl1 : l.length ≤ 1000) :
    Ct Tryz.prog 158 [.pointer (some ⟨qb, 0, none⟩), .slice la l.length lc] [cb qb qa qc ql qp qs, rS la lc l] (fun w => seesC w qa qc ql [cb qb qa qc ql qp qs, rS la lc l]) (fun v A' => ∃ qp' qs' r0, qp' ≤ ql.length ∧ (r0 ∈ l) ∧ v = str r0 ∧ A' = [cb qb qa qc ql qp' qs']) := by
  refine Ct.intro Tryz.func158 rfl Tryz.ntmps158 (lb rfl) fun w0 hpre => ?_
  have hs_qa : Sees w0 _ _ _ _ := hpre.1
  refine jC <| jF <| jA (jG (v := str []) rfl) <| jE <| jB <| jC <| jF <| jA (jD (v := .slice la l.length lc) rfl) <| jA (jD (v := .pointer (some ⟨qb, 0, none⟩)) rfl) <| jA (jD (v := .slice la l.length lc) rfl) ?_
  refine jA (jr ku rfl) ?_
  refine jH rfl (jI [0] Tryz.call73 rfl (D_below qb qa qc ql qp qs (by omega) (by omega) ((l.length : Nat) : Int) (by omega)) rfl (fun w hw => ⟨hw.seeOut_ hs_qa (hpre.2), hw.apart hs_qa (hpre.2) (by simp)⟩)) ?_
  rintro _ _ ⟨_, ⟨qp_1, qs_2, n_4, fq_3, f_5, rfl, rfl⟩, rfl⟩
  refine kN fun hst => ?_
  obtain ⟨hr_7, hr_7b, -⟩ := row_some 1 rfl (by omega) hst
  refine jA (jk (i := n_4) ku kt hr_7 hr_7b rfl rfl (by omega)) <| jK (ka 1 (v := str (l.getD n_4 [])) rfl rfl ki (atS (by omega))) <| jA (jG (v := str (l.getD n_4 [])) rfl) <| jE <| jB <| jN <| jV (.inl rfl) rfl (jJ (v := str (l.getD n_4 [])) rfl) (tS 1 _) ?_
  exact ⟨qp_1, qs_2, (l.getD n_4 []), (by omega), (getD_mem (by omega)), rfl, rfl⟩

theorem D_pickInt (qb : Nat) (qa : Option Addr) (qc : Nat) (ql : Str) (qp : Nat) (qs : Int) (la : Option Addr) (lc : Nat) (l : List Int) (hql : ql.length ≤ 1048576) (hqp : qp ≤ ql.length)  (hl0 : 0 < l.length) (hl1 : l.length ≤ 1000) :
    Ct Tryz.prog 98 [.pointer (some ⟨qb, 0, none⟩), .slice la l.length lc] [cb qb qa qc ql qp qs, rI la lc l] (fun w => seesC w qa qc ql [cb qb qa qc ql qp qs, rI la lc l]) (fun v A' => ∃ qp' qs' r0, qp' ≤ ql.length ∧ (r0 ∈ l) ∧ v = .int .i64 r0 ∧ A' = [cb qb qa qc ql qp' qs']) := by
  refine Ct.intro Tryz.func98 rfl Tryz.ntmps98 (lb rfl) fun w0 hpre => ?_
  have hs_qa : Sees w0 _ _ _ _ := hpre.1
  refine jC <| jF <| jA (jG (v := iv 0) rfl) <| jE <| jB <| jC <| jF <| jA (jD (v := .slice la l.length lc) rfl) <| jA (jD (v := .pointer (some ⟨qb, 0, none⟩)) rfl) <| jA (jD (v := .slice la l.length lc) rfl) ?_
  refine jA (jr Tryz.underlying41 rfl) ?_
  refine jH rfl (jI [0] Tryz.call73 rfl (D_below qb qa qc ql qp qs (by omega) (by omega) ((l.length : Nat) : Int) (by omega)) rfl (fun w hw => ⟨hw.seeOut_ hs_qa (hpre.2), hw.apart hs_qa (hpre.2) (by simp)⟩)) ?_
  rintro _ _ ⟨_, ⟨qp_1, qs_2, n_4, fq_3, f_5, rfl, rfl⟩, rfl⟩
  refine kN fun hst => ?_
  obtain ⟨hr_7, hr_7b, -⟩ := row_some 1 rfl (by omega) hst
  refine jA (jk (i := n_4) Tryz.underlying41 gA hr_7 hr_7b rfl rfl (by omega)) <| jK (ka 1 (v := iv (l.getD n_4 0)) rfl rfl kq (atI (by omega))) <| jA (jG (v := iv (l.getD n_4 0)) rfl) <| jE <| jB <| jN <| jV (.inl rfl) rfl (jJ (v := iv (l.getD n_4 0)) rfl) (tS 1 _) ?_
  exact ⟨qp_1, qs_2, (l.getD n_4 0), (by omega), (getD_mem (by omega)), rfl, rfl⟩

theorem D_new (pa : Option Addr) (pc : Nat) (p : Str) (hp : p.length ≤ 1048576)  :
    Ct Tryz.prog 72 [.slice pa p.length pc] [] (fun w => Sees w (.slice pa p.length pc) 1 p.length (p.map encB)) (fun v A' => ∃ r0 r0s, True ∧ v = .pointer (some ⟨r0, 0, none⟩) ∧ A' = [cb r0 pa pc p 0 r0s]) := by
  refine Ct.intro Tryz.func72 rfl Tryz.ntmps72 (lb rfl) fun w0 hpre => ?_
  have hs_pa : Sees w0 _ _ _ _ := hpre
  refine jC <| jF <| jA (jG (v := .pointer none) rfl) <| jE <| jB <| jC <| jF <| jA (jD (v := .slice pa p.length pc) rfl) <| jA (jr kr rfl) <| jA (jc (c := ((94701 + p.length : Nat) : Int)) rfl rfl (wr (by omega))) ?_
  refine jA (jG (v := iv ((94701 + p.length : Nat) : Int)) rfl) <| jE <| jB <| jC <| jC <| jF <| jA (jG (v := iv 0) rfl) <| jE <| jB <| jf ?_
  refine kD (fun k_ e_ L_ => ∃ i_ : Nat, ∃ s_ : Int, (i_ ≤ p.length) ∧ (0 ≤ s_ ∧ s_ ≤ 1073741823) ∧ e_ 0 = .slice pa p.length pc ∧ e_ 2 = .pointer none ∧ e_ 3 = iv s_ ∧ e_ 4 = nv i_ ∧ L_ = [] ∧ k_ = 1048577 - i_) _ ⟨0, ((94701 + p.length : Nat) : Int), (by omega), (by omega), rfl, rfl, rfl, rfl, rfl, rfl⟩ ?_
  rintro _ e_1 _ ⟨i_, s_, hi, hs, he_2, he_3, he_4, he_5, rfl, rfl⟩
  refine jC <| jC <| jF <| jA (jD (v := nv i_) he_5) <| jA (jD (v := .slice pa p.length pc) he_2) <| jA (jr kr rfl) <| jA (jl rfl rfl) <| jA (jD (v := .bool (decide (((i_ : Nat) : Int) < ((p.length : Nat) : Int)))) rfl) ?_
  by_cases h_6 : ((i_ : Nat) : Int) < ((p.length : Nat) : Int)
  · have hu8 := UInt8.toNat_lt (p.getD i_ 0)
    refine jM rfl rfl rfl (cB (dT h_6)) (jP (jU (jD (v := nv i_) he_5))) ?_
    rintro _ _ ⟨rfl, rfl⟩
    refine jM rfl rfl rfl (cB (dT h_6)) (jP (jU (jl rfl rfl))) ?_
    rintro _ _ ⟨rfl, rfl⟩
    refine jA (jh (v := .bool (decide (((i_ : Nat) : Int) < 4000))) (cB (dT h_6)) rfl) <| jE <| jB ?_
    by_cases h_7 : ((i_ : Nat) : Int) < 4000
    · refine jW (cB (dT h_7)) <| jT <| jB <| jC <| jf <| jF <| jA (jD (v := iv s_) he_4) <| jA (PO.mul (c := s_ * 131) rfl rfl (wr (by omega))) <| jA (jD (v := .slice pa p.length pc) he_2) <| jA (jD (v := nv i_) he_5) ?_
      obtain ⟨hr_8, hr_8b, -⟩ := sees_some hs_pa (by omega)
      refine jA (jk (i := i_) kr gH hr_8 hr_8b rfl rfl (by omega)) <| jK (kY (v := .int .u8 (((p.getD i_ 0).toNat : Nat) : Int)) hs_pa nM rfl Tryz.isAgg5 (atB (by omega))) <| jA (PO.convI (c := (((p.getD i_ 0).toNat : Nat) : Int)) kv gC rfl (wr (by omega))) <| jA (jc (c := (s_ * 131) + (((p.getD i_ 0).toNat : Nat) : Int)) rfl rfl (wr (by omega))) <| jA (jc (c := ((s_ * 131) + (((p.getD i_ 0).toNat : Nat) : Int)) + 7) rfl rfl (wr (by omega))) <| jA (PO.bits (by simp) rfl rfl) <| jA (jG (v := iv (Go.bits .and .i64 (((s_ * 131) + (((p.getD i_ 0).toNat : Nat) : Int)) + 7) 1073741823)) rfl) <| jE <| jm <| jB ?_
      refine jF <| jA (jD (v := nv i_) he_5) <| jA (jc (c := ((i_ + 1 : Nat) : Int)) rfl rfl (wr (by omega))) <| jA (jG (v := iv ((i_ + 1 : Nat) : Int)) rfl) <| jE <| kB [] (A := []) rfl ?_
      refine jq (1048577 - (i_ + 1)) (by omega) ⟨(i_ + 1), (Go.bits .and .i64 (((s_ * 131) + (((p.getD i_ 0).toNat : Nat) : Int)) + 7) 1073741823), (by omega), (and_bnd _ _ (by decide) (by decide)), he_2, he_3, rfl, rfl, rfl, rfl⟩
    refine jR (cB (dF h_7)) <| jx <| jb <| jb <| jy <| jB <| jC <| jF <| jA (jD (v := .slice pa p.length pc) he_2) <| jA (jD (v := iv s_) he_4) ?_
    refine jA (kW (ps := [(0, .slice pa p.length pc), (2, iv s_)]) (cs := [.slice pa p.length pc, iv 0, iv s_]) rfl (by kernel_rfl)) ?_
    refine jH rfl (kG (cs := [.slice pa p.length pc, iv 0, iv s_]) rfl rfl) ?_
    rintro _ _ ⟨b_9, rfl, rfl⟩
    refine jA (jG (v := .pointer (some ⟨b_9, 0, none⟩)) rfl) <| jE <| jB <| jN <| jV (.inl rfl) rfl (jJ (v := .pointer (some ⟨b_9, 0, none⟩)) rfl) (List.Sublist.refl _) ?_
    exact ⟨b_9, s_, trivial, rfl, rfl⟩
  refine jS (b := false) rfl rfl rfl (cB (dF h_6)) <| jS (b := false) rfl rfl rfl (cB (dF h_6)) <| jA (ji (v := .bool false) (cB (dF h_6)) rfl) <| jE <| jB <| jR (cB rfl) <| jx <| jb <| jb <| jy ?_
  refine jB <| jC <| jF <| jA (jD (v := .slice pa p.length pc) he_2) <| jA (jD (v := iv s_) he_4) <| jA (kW (ps := [(0, .slice pa p.length pc), (2, iv s_)]) (cs := [.slice pa p.length pc, iv 0, iv s_]) rfl (by kernel_rfl)) ?_
  refine jH rfl (kG (cs := [.slice pa p.length pc, iv 0, iv s_]) rfl rfl) ?_
  rintro _ _ ⟨b_10, rfl, rfl⟩
  refine jA (jG (v := .pointer (some ⟨b_10, 0, none⟩)) rfl) <| jE <| jB <| jN <| jV (.inl rfl) rfl (jJ (v := .pointer (some ⟨b_10, 0, none⟩)) rfl) (List.Sublist.refl _) ?_
  exact ⟨b_10, s_, trivial, rfl, rfl⟩

theorem D_long (b : UInt8) (n : Int) (hn : -9223372036854775808 ≤ n ∧ n ≤ 9223372036854775807) (hn0 : 0 ≤ n ∧ n ≤ 30000) :
    Ct Tryz.prog 156 [.int .i64 n, .int .u8 ((b.toNat : Nat) : Int)] [] (fun _ => True) (fun v A' => ∃ r0, (r0.length = n.toNat) ∧ v = str r0 ∧ A' = []) := by
  obtain ⟨nn, hnn⟩ : ∃ nn : Nat, n = ((nn : Nat) : Int) := ⟨n.toNat, by omega⟩
  refine Ct.intro Tryz.func156 rfl Tryz.ntmps156 (lb rfl) fun w0 hpre => ?_
  refine jC <| jF <| jA (jG (v := str []) rfl) <| jE <| jB <| jC <| jF <| jA (jD (v := nv nn) (congrArg (Value.int .i64) hnn)) ?_
  refine jH rfl (JO.makeSlice (z := .int .u8 0) (zc := [.int .u8 0]) (m := nn) kr Tryz.typeInfo5 rfl rfl rfl rfl rfl (by unfold maxLen; omega) (by show 1 * _ ≤ _; omega)) ?_
  rintro _ _ ⟨a_1, rfl, rfl⟩
  rw [mkB_flat]
  refine jA (jG (v := .slice a_1 nn nn) rfl) <| jE <| jB <| jC <| jC <| jF <| jA (jG (v := iv 0) rfl) <| jE <| jB <| jf ?_
  refine kD (fun k_ e_ L_ => ∃ i_ : Nat, ∃ bba : Option Addr, ∃ bbc : Nat, ∃ bbn : Nat, ∃ bb : Str, (bb.length = bbn) ∧ (i_ ≤ nn ∧ bbn = nn) ∧ e_ 0 = nv nn ∧ e_ 1 = .int .u8 ((b.toNat : Nat) : Int) ∧ e_ 4 = str [] ∧ e_ 5 = .slice bba bbn bbc ∧ e_ 6 = nv i_ ∧ L_ = [Res.row (.slice bba bbn bbc) 5 1 bbn (bb.map encB)] ∧ k_ = 30001 - i_) _ ⟨0, a_1, nn, nn, (List.replicate nn (0 : UInt8)), (by first | rfl | omega | (simp only [List.length_append, List.length_cons, List.length_nil, List.length_set]; omega) | simp), (⟨by omega, rfl⟩), (congrArg (Value.int .i64) hnn), rfl, rfl, rfl, rfl, rfl, rfl⟩ ?_
  rintro _ e_2 _ ⟨i_, bba, bbc, bbn, bb, hbbn, hi, he_3, he_4, he_5, he_6, he_7, rfl, rfl⟩
  refine jC <| jC <| jF <| jA (jD (v := nv i_) he_7) <| jA (jD (v := nv nn) he_3) <| jA (jl rfl rfl) <| jE <| jB ?_
  by_cases h_8 : ((i_ : Nat) : Int) < ((nn : Nat) : Int)
  · refine jW (cB (dT h_8)) <| jT <| jB <| jC <| jf <| jF <| jA (jD (v := .slice bba bbn bbc) he_6) <| jA (jD (v := nv i_) he_7) <| jA (jD (v := .int .u8 ((b.toNat : Nat) : Int)) he_4) ?_
    refine kN fun hst => ?_
    obtain ⟨hr_9, hr_9b, -⟩ := row_some 0 rfl (by omega) hst
    refine jA (jk (i := i_) kr gH hr_9 hr_9b rfl rfl (by omega)) ?_
    refine jH rfl (JO.storeR 0 (vs := [.int .u8 ((b.toNat : Nat) : Int)]) (cs' := (bb.set i_ (b)).map encB) rfl rfl rfl rfl gH rfl rfl (by decide) (by rw [List.length_map]; omega) (setB (by omega))) ?_
    rintro _ _ rfl
    refine jE <| jm <| jB <| jF <| jA (jD (v := nv i_) he_7) <| jA (jc (c := ((i_ + 1 : Nat) : Int)) rfl rfl (wr (by omega))) <| jA (jG (v := iv ((i_ + 1 : Nat) : Int)) rfl) <| jE <| kB [0] (A := [Res.row (.slice bba bbn bbc) 5 1 bbn ((bb.set i_ (b)).map encB)]) rfl ?_
    refine jq (30001 - (i_ + 1)) (by omega) ⟨(i_ + 1), bba, bbc, bbn, (bb.set i_ (b)), (by first | rfl | omega | (simp only [List.length_append, List.length_cons, List.length_nil, List.length_set]; omega) | simp), (by omega), he_3, he_4, he_5, he_6, rfl, rfl, rfl⟩
  refine jR (cB (dF h_8)) <| jx <| jb <| jb <| jy <| jB <| jC <| jF <| jA (jD (v := .slice bba bbn bbc) he_6) <| jK (LO.toStr 0 bb rfl kr kv kg rfl rfl) ?_
  refine jA (jG (v := str bb) rfl) <| jE <| jB <| jN <| jV (.inl rfl) rfl (jJ (v := str bb) rfl) (List.nil_sublist _) ?_
  exact ⟨bb, (by first | omega | (simp only [LE]; omega)), rfl, rfl⟩

theorem D_text (qb : Nat) (qa : Option Addr) (qc : Nat) (ql : Str) (qp : Nat) (qs : Int) (hql : ql.length ≤ 1048576) (hqp : qp ≤ ql.length) (k : Int) (hk : -9223372036854775808 ≤ k ∧ k ≤ 9223372036854775807) :
    Ct Tryz.prog 159 [.pointer (some ⟨qb, 0, none⟩), .int .i64 k] [cb qb qa qc ql qp qs] (fun w => seesC w qa qc ql [cb qb qa qc ql qp qs]) (fun v A' => ∃ qp' qs' r0, qp' ≤ ql.length ∧ (r0.length ≤ 5000 ∧ (((r0.length : Nat) : Int) ≤ k ∨ r0.length = 0)) ∧ v = str r0 ∧ A' = [cb qb qa qc ql qp' qs']) := by
  refine Ct.intro Tryz.func159 rfl Tryz.ntmps159 (lb rfl) fun w0 hpre => ?_
  have hs_qa : Sees w0 _ _ _ _ := hpre.1
  refine jC <| jF <| jA (jG (v := str []) rfl) <| jE <| jB <| jC <| jC <| jF <| jA (jD (v := iv k) rfl) <| jA (kR rfl rfl) ?_
  refine jE <| jB ?_
  by_cases h_1 : 5000 < k
  · refine jW (cB (dT h_1)) <| jF <| jA (jG (v := iv 5000) rfl) <| jE <| jB <| jC <| jF ?_
    refine jH rfl (kH (ps := []) (cur := #[]) kr gH gK rfl (by kernel_rfl) (by decide) (by decide)) ?_
    rintro _ _ ⟨a_2, rfl, rfl⟩
    refine jA (jG (v := .slice a_2 0 0) rfl) <| jE <| jB <| jC <| jC <| jF <| jA (jG (v := iv 0) rfl) <| jE <| jB <| jf ?_
    refine kD (fun k_ e_ L_ => ∃ i_ : Nat, ∃ p_q : Nat, ∃ s_q : Int, ∃ o_a : Option Addr, ∃ o_c : Nat, ∃ o_n : Nat, ∃ o_ : Str, (p_q ≤ ql.length) ∧ (o_.length = o_n) ∧ (i_ ≤ 5000 ∧ (((i_ : Nat) : Int) ≤ k ∨ i_ = 0)) ∧ (o_.length = i_) ∧ e_ 0 = .pointer (some ⟨qb, 0, none⟩) ∧ e_ 1 = iv 5000 ∧ e_ 4 = str [] ∧ e_ 5 = .slice o_a o_n o_c ∧ e_ 6 = nv i_ ∧ L_ = [Res.row (.slice o_a o_n o_c) 5 1 o_n (o_.map encB), cb qb qa qc ql p_q s_q] ∧ k_ = 5001 - i_) _ ⟨0, qp, qs, a_2, 0, 0, ([] : List UInt8), (by omega), (by first | rfl | omega | (simp only [List.length_append, List.length_cons, List.length_nil, List.length_set]; omega) | simp), (by omega), (by rfl), rfl, rfl, rfl, rfl, rfl, rfl, rfl⟩ ?_
    rintro _ e_3 _ ⟨i_, p_q, s_q, o_a, o_c, o_n, o_, hpq_, ho_n, hi, ho, he_4, he_5, he_6, he_7, he_8, rfl, rfl⟩
    refine jC <| jC <| jF <| jA (jD (v := nv i_) he_8) <| jA (jD (v := iv 5000) he_5) <| jA (jl rfl rfl) <| jE <| jB ?_
    by_cases h_9 : ((i_ : Nat) : Int) < 5000
    · refine jW (cB (dT h_9)) <| jT <| jB <| jC <| jf <| jF <| jA (jD (v := .slice o_a o_n o_c) he_7) <| jA (jD (v := .pointer (some ⟨qb, 0, none⟩)) he_4) ?_
      refine jH rfl (jI [1] Tryz.call119 rfl (D_byte qb qa qc ql p_q s_q (by omega) (by omega)) rfl (fun w hw => ⟨hw.seeOut_ hs_qa (hpre.2), hw.apart hs_qa (hpre.2) (by simp)⟩)) ?_
      rintro _ _ ⟨_, ⟨qp_10, qs_11, n_13, fq_12, f_14, rfl, rfl⟩, rfl⟩
      refine jA (PO.convI (c := (((UInt8.ofNat n_13).toNat : Nat) : Int)) gC kv rfl (wr8u (c := UInt8.ofNat n_13) (by omega) (by rw [Int.toNat_natCast]))) ?_
      refine jH rfl (kH (ps := [(0, .int .u8 (((UInt8.ofNat n_13).toNat : Nat) : Int))]) (cur := #[.int .u8 (((UInt8.ofNat n_13).toNat : Nat) : Int)]) kr gH gK rfl (by kernel_rfl) (by decide) (by decide)) ?_
      rintro _ _ ⟨a_16, rfl, rfl⟩
      refine jH rfl (kU 2 (q := 1) (news := ([UInt8.ofNat n_13] : List UInt8).map encB) (n' := (o_ ++ ([UInt8.ofNat n_13] : List UInt8)).length) (cs' := (o_ ++ ([UInt8.ofNat n_13] : List UInt8)).map encB) rfl kr kr Tryz.typeInfo5 rfl (by' := 1) rfl rfl rfl rfl rfl (fun w hw => Src.sees (hw.see (i := 0) rfl) (oneB _)) (by (try simp only [LE]); omega) (by (try simp only [LE]); omega) (by simp only [List.length_append, List.length_take, List.length_drop, List.length_cons, List.length_nil] <;> first | rfl | omega) (by simp only [List.map_append])) ?_
      rintro _ _ ⟨a_17, c_18, rfl, rfl⟩
      refine jA (jG (v := .slice a_17 ((o_ ++ ([UInt8.ofNat n_13] : List UInt8)).length) c_18) rfl) <| jE <| jm <| jB <| jF <| jA (jD (v := nv i_) he_8) <| jA (jc (c := ((i_ + 1 : Nat) : Int)) rfl rfl (wr (by omega))) <| jA (jG (v := iv ((i_ + 1 : Nat) : Int)) rfl) <| jE <| kB [2, 1] (A := [Res.row (.slice a_17 ((o_ ++ ([UInt8.ofNat n_13] : List UInt8)).length) c_18) 5 1 ((o_ ++ ([UInt8.ofNat n_13] : List UInt8)).length) ((o_ ++ ([UInt8.ofNat n_13] : List UInt8)).map encB), cb qb qa qc ql qp_10 qs_11]) rfl ?_
      refine jq (5001 - (i_ + 1)) (by omega) ⟨(i_ + 1), qp_10, qs_11, a_17, c_18, ((o_ ++ ([UInt8.ofNat n_13] : List UInt8)).length), (o_ ++ ([UInt8.ofNat n_13] : List UInt8)), (by omega), (by first | rfl | omega | (simp only [List.length_append, List.length_cons, List.length_nil, List.length_set]; omega) | simp), (by omega), (by first | omega | (simp only [List.length_append, List.length_cons, List.length_nil, List.length_set]; omega)), he_4, he_5, he_6, rfl, rfl, rfl, rfl⟩
    refine jR (cB (dF h_9)) <| jx <| jb <| jb <| jy <| jB <| jC <| jF <| jA (jD (v := .slice o_a o_n o_c) he_7) <| jK (LO.toStr 0 o_ rfl kr kv kg rfl rfl) ?_
    refine jA (jG (v := str o_) rfl) <| jE <| jB <| jN <| kM (pick_perm [1] (A := [cb qb qa qc ql p_q s_q]) (F := [Res.row (.slice o_a o_n o_c) 5 1 o_n (o_.map encB)]) rfl).symm <| jV (.inl rfl) rfl (jJ (v := str o_) rfl) (tS 1 _) ?_
    exact ⟨p_q, s_q, o_, (by omega), (by first | omega | (simp only [LE]; omega)), rfl, rfl⟩
  refine jR (cB (dF h_1)) <| jT <| jB <| jC <| jF ?_
  refine jH rfl (kH (ps := []) (cur := #[]) kr gH gK rfl (by kernel_rfl) (by decide) (by decide)) ?_
  rintro _ _ ⟨a_19, rfl, rfl⟩
  refine jA (jG (v := .slice a_19 0 0) rfl) <| jE <| jB <| jC <| jC <| jF <| jA (jG (v := iv 0) rfl) <| jE <| jB <| jf ?_
  refine kD (fun k_ e_ L_ => ∃ i_ : Nat, ∃ p_q : Nat, ∃ s_q : Int, ∃ o_a : Option Addr, ∃ o_c : Nat, ∃ o_n : Nat, ∃ o_ : Str, (p_q ≤ ql.length) ∧ (o_.length = o_n) ∧ (i_ ≤ 5000 ∧ (((i_ : Nat) : Int) ≤ k ∨ i_ = 0)) ∧ (o_.length = i_) ∧ e_ 0 = .pointer (some ⟨qb, 0, none⟩) ∧ e_ 1 = iv k ∧ e_ 4 = str [] ∧ e_ 5 = .slice o_a o_n o_c ∧ e_ 6 = nv i_ ∧ L_ = [Res.row (.slice o_a o_n o_c) 5 1 o_n (o_.map encB), cb qb qa qc ql p_q s_q] ∧ k_ = 5001 - i_) _ ⟨0, qp, qs, a_19, 0, 0, ([] : List UInt8), (by omega), (by first | rfl | omega | (simp only [List.length_append, List.length_cons, List.length_nil, List.length_set]; omega) | simp), (by omega), (by rfl), rfl, rfl, rfl, rfl, rfl, rfl, rfl⟩ ?_
  rintro _ e_20 _ ⟨i_, p_q, s_q, o_a, o_c, o_n, o_, hpq_, ho_n, hi, ho, he_21, he_22, he_23, he_24, he_25, rfl, rfl⟩
  refine jC <| jC <| jF <| jA (jD (v := nv i_) he_25) <| jA (jD (v := iv k) he_22) <| jA (jl rfl rfl) <| jE <| jB ?_
  by_cases h_26 : ((i_ : Nat) : Int) < k
  · refine jW (cB (dT h_26)) <| jT <| jB <| jC <| jf <| jF <| jA (jD (v := .slice o_a o_n o_c) he_24) <| jA (jD (v := .pointer (some ⟨qb, 0, none⟩)) he_21) ?_
    refine jH rfl (jI [1] Tryz.call119 rfl (D_byte qb qa qc ql p_q s_q (by omega) (by omega)) rfl (fun w hw => ⟨hw.seeOut_ hs_qa (hpre.2), hw.apart hs_qa (hpre.2) (by simp)⟩)) ?_
    rintro _ _ ⟨_, ⟨qp_27, qs_28, n_30, fq_29, f_31, rfl, rfl⟩, rfl⟩
    refine jA (PO.convI (c := (((UInt8.ofNat n_30).toNat : Nat) : Int)) gC kv rfl (wr8u (c := UInt8.ofNat n_30) (by omega) (by rw [Int.toNat_natCast]))) ?_
    refine jH rfl (kH (ps := [(0, .int .u8 (((UInt8.ofNat n_30).toNat : Nat) : Int))]) (cur := #[.int .u8 (((UInt8.ofNat n_30).toNat : Nat) : Int)]) kr gH gK rfl (by kernel_rfl) (by decide) (by decide)) ?_
    rintro _ _ ⟨a_33, rfl, rfl⟩
    refine jH rfl (kU 2 (q := 1) (news := ([UInt8.ofNat n_30] : List UInt8).map encB) (n' := (o_ ++ ([UInt8.ofNat n_30] : List UInt8)).length) (cs' := (o_ ++ ([UInt8.ofNat n_30] : List UInt8)).map encB) rfl kr kr Tryz.typeInfo5 rfl (by' := 1) rfl rfl rfl rfl rfl (fun w hw => Src.sees (hw.see (i := 0) rfl) (oneB _)) (by (try simp only [LE]); omega) (by (try simp only [LE]); omega) (by simp only [List.length_append, List.length_take, List.length_drop, List.length_cons, List.length_nil] <;> first | rfl | omega) (by simp only [List.map_append])) ?_
    rintro _ _ ⟨a_34, c_35, rfl, rfl⟩
    refine jA (jG (v := .slice a_34 ((o_ ++ ([UInt8.ofNat n_30] : List UInt8)).length) c_35) rfl) <| jE <| jm <| jB <| jF <| jA (jD (v := nv i_) he_25) <| jA (jc (c := ((i_ + 1 : Nat) : Int)) rfl rfl (wr (by omega))) <| jA (jG (v := iv ((i_ + 1 : Nat) : Int)) rfl) <| jE <| kB [2, 1] (A := [Res.row (.slice a_34 ((o_ ++ ([UInt8.ofNat n_30] : List UInt8)).length) c_35) 5 1 ((o_ ++ ([UInt8.ofNat n_30] : List UInt8)).length) ((o_ ++ ([UInt8.ofNat n_30] : List UInt8)).map encB), cb qb qa qc ql qp_27 qs_28]) rfl ?_
    refine jq (5001 - (i_ + 1)) (by omega) ⟨(i_ + 1), qp_27, qs_28, a_34, c_35, ((o_ ++ ([UInt8.ofNat n_30] : List UInt8)).length), (o_ ++ ([UInt8.ofNat n_30] : List UInt8)), (by omega), (by first | rfl | omega | (simp only [List.length_append, List.length_cons, List.length_nil, List.length_set]; omega) | simp), (by omega), (by first | omega | (simp only [List.length_append, List.length_cons, List.length_nil, List.length_set]; omega)), he_21, he_22, he_23, rfl, rfl, rfl, rfl⟩
  refine jR (cB (dF h_26)) <| jx <| jb <| jb <| jy <| jB <| jC <| jF <| jA (jD (v := .slice o_a o_n o_c) he_24) <| jK (LO.toStr 0 o_ rfl kr kv kg rfl rfl) ?_
  refine jA (jG (v := str o_) rfl) <| jE <| jB <| jN <| kM (pick_perm [1] (A := [cb qb qa qc ql p_q s_q]) (F := [Res.row (.slice o_a o_n o_c) 5 1 o_n (o_.map encB)]) rfl).symm <| jV (.inl rfl) rfl (jJ (v := str o_) rfl) (tS 1 _) ?_
  exact ⟨p_q, s_q, o_, (by omega), (by first | omega | (simp only [LE]; omega)), rfl, rfl⟩

theorem D_key (qb : Nat) (qa : Option Addr) (qc : Nat) (ql : Str) (qp : Nat) (qs : Int) (hql : ql.length ≤ 1048576) (hqp : qp ≤ ql.length)  :
    Ct Tryz.prog 157 [.pointer (some ⟨qb, 0, none⟩)] [cb qb qa qc ql qp qs] (fun w => seesC w qa qc ql [cb qb qa qc ql qp qs]) (fun v A' => ∃ qp' qs' r0, qp' ≤ ql.length ∧ (r0.length ≤ 64) ∧ v = str r0 ∧ A' = [cb qb qa qc ql qp' qs']) := by
  refine Ct.intro Tryz.func157 rfl Tryz.ntmps157 (lb rfl) fun w0 hpre => ?_
  have hs_qa : Sees w0 _ _ _ _ := hpre.1
  refine jC <| jF <| jA (jG (v := str []) rfl) <| jE <| jB <| jC <| jF <| jA (jD (v := .pointer (some ⟨qb, 0, none⟩)) rfl) ?_
  refine jH rfl (kH (ps := [(0, str [97]), (1, str [98]), (2, str [110, 47, 120]), (3, str [110, 47, 121]), (4, str [110, 47, 121, 121]), (5, str [105, 47, 49, 47, 115]), (6, str [105, 47, 49, 47, 98, 47, 48]), (7, str [105, 47, 49, 50, 47, 115]), (8, str [99, 47, 112, 105, 112, 101]), (9, str [112, 47, 49, 47, 104])]) (cur := #[str [97], str [98], str [110, 47, 120], str [110, 47, 121], str [110, 47, 121, 121], str [105, 47, 49, 47, 115], str [105, 47, 49, 47, 98, 47, 48], str [105, 47, 49, 50, 47, 115], str [99, 47, 112, 105, 112, 101], str [112, 47, 49, 47, 104]]) ku kt Tryz.zeroValue9 rfl (by kernel_rfl) (by decide) (by decide)) ?_
  rintro _ _ ⟨a_1, rfl, rfl⟩
  refine jH rfl (jI [1, 0] Tryz.call158 rfl (D_pick qb qa qc ql qp qs a_1 10 ([[97], [98], [110, 47, 120], [110, 47, 121], [110, 47, 121, 121], [105, 47, 49, 47, 115], [105, 47, 49, 47, 98, 47, 48], [105, 47, 49, 50, 47, 115], [99, 47, 112, 105, 112, 101], [112, 47, 49, 47, 104]] : List Str) (by omega) (by omega) (by simp) (by simp)) rfl (fun w hw => ⟨hw.seeOut_ hs_qa (hpre.2), hw.apart hs_qa (hpre.2) (by simp)⟩)) ?_
  rintro _ _ ⟨_, ⟨qp_2, qs_3, u_5, fq_4, f_6, rfl, rfl⟩, rfl⟩
  have hlu_5 : u_5.length ≤ 64 := by have hx_ := f_6; simp only [List.mem_cons, List.not_mem_nil, or_false] at hx_; rcases hx_ with hx_ | hx_ | hx_ | hx_ | hx_ | hx_ | hx_ | hx_ | hx_ | hx_ <;> first | (rw [hx_]; decide) | (rw [hx_]; omega)
  refine jA (jG (v := str u_5) rfl) <| jE <| jB <| jN <| jV (.inl rfl) rfl (jJ (v := str u_5) rfl) (List.Sublist.refl _) ?_
  exact ⟨qp_2, qs_3, u_5, (by omega), (by first | omega | (simp only [LE]; omega)), rfl, rfl⟩

theorem D_val (qb : Nat) (qa : Option Addr) (qc : Nat) (ql : Str) (qp : Nat) (qs : Int) (hql : ql.length ≤ 1048576) (hqp : qp ≤ ql.length)  :
    Ct Tryz.prog 137 [.pointer (some ⟨qb, 0, none⟩)] [cb qb qa qc ql qp qs] (fun w => seesC w qa qc ql [cb qb qa qc ql qp qs]) (fun v A' => ∃ qp' qs' r0, qp' ≤ ql.length ∧ (r0.length ≤ 64) ∧ v = str r0 ∧ A' = [cb qb qa qc ql qp' qs']) := by
  refine Ct.intro Tryz.func137 rfl Tryz.ntmps137 (lb rfl) fun w0 hpre => ?_
  have hs_qa : Sees w0 _ _ _ _ := hpre.1
  refine jC <| jF <| jA (jG (v := str []) rfl) <| jE <| jB <| jC <| jC <| jF <| jA (jD (v := .pointer (some ⟨qb, 0, none⟩)) rfl) ?_
  refine jH rfl (jI [0] Tryz.call99 rfl (D_once qb qa qc ql qp qs (by omega) (by omega) 16 (by omega)) rfl (fun w hw => ⟨hw.seeOut_ hs_qa (hpre.2), hw.apart hs_qa (hpre.2) (by simp)⟩)) ?_
  rintro _ _ ⟨_, ⟨qp_1, qs_2, b_4, fq_3, rfl, rfl⟩, rfl⟩
  refine jE <| jB ?_
  rcases Bool.eq_false_or_eq_true (b_4) with h_6 | h_6
  · refine jW (cB h_6) <| jC <| jF <| jA (jD (v := .pointer (some ⟨qb, 0, none⟩)) rfl) ?_
    refine jH rfl (jI [0] Tryz.call73 rfl (D_below qb qa qc ql qp_1 qs_2 (by omega) (by omega) 2 (by omega)) rfl (fun w hw => ⟨hw.seeOut_ hs_qa (hpre.2), hw.apart hs_qa (hpre.2) (by simp)⟩)) ?_
    rintro _ _ ⟨_, ⟨qp_7, qs_8, n_10, fq_9, f_11, rfl, rfl⟩, rfl⟩
    refine jA (jc (c := ((60 + n_10 : Nat) : Int)) rfl rfl (wr (by omega))) ?_
    refine jH rfl (jI [] Tryz.call156 rfl (D_long (5 : UInt8) ((60 + n_10 : Nat) : Int) (by omega) (by omega)) rfl (fun _ _ => trivial)) ?_
    rintro _ _ ⟨_, ⟨u_13, f_14, rfl, rfl⟩, rfl⟩
    refine jA (jG (v := str u_13) rfl) <| jE <| jB <| jN <| jX <| jV (.inl rfl) rfl (jJ (v := str u_13) rfl) (List.Sublist.refl _) ?_
    exact ⟨qp_7, qs_8, u_13, (by omega), (by first | omega | (simp only [LE]; omega)), rfl, rfl⟩
  refine jR (cB h_6) <| jT <| jB <| jC <| jF <| jA (jD (v := .pointer (some ⟨qb, 0, none⟩)) rfl) <| jA (jD (v := .pointer (some ⟨qb, 0, none⟩)) rfl) ?_
  refine jH rfl (jI [0] Tryz.call73 rfl (D_below qb qa qc ql qp_1 qs_2 (by omega) (by omega) 5 (by omega)) rfl (fun w hw => ⟨hw.seeOut_ hs_qa (hpre.2), hw.apart hs_qa (hpre.2) (by simp)⟩)) ?_
  rintro _ _ ⟨_, ⟨qp_16, qs_17, n_19, fq_18, f_20, rfl, rfl⟩, rfl⟩
  refine jH rfl (jI [0] Tryz.call159 rfl (D_text qb qa qc ql qp_16 qs_17 (by omega) (by omega) ((n_19 : Nat) : Int) (by omega)) rfl (fun w hw => ⟨hw.seeOut_ hs_qa (hpre.2), hw.apart hs_qa (hpre.2) (by simp)⟩)) ?_
  rintro _ _ ⟨_, ⟨qp_22, qs_23, u_25, fq_24, f_26, rfl, rfl⟩, rfl⟩
  refine jA (jG (v := str u_25) rfl) <| jE <| jB <| jN <| jV (.inl rfl) rfl (jJ (v := str u_25) rfl) (List.Sublist.refl _) ?_
  exact ⟨qp_22, qs_23, u_25, (by omega), (by first | omega | (simp only [LE]; omega)), rfl, rfl⟩

theorem D_anyKey (qb : Nat) (qa : Option Addr) (qc : Nat) (ql : Str) (qp : Nat) (qs : Int) (hql : ql.length ≤ 1048576) (hqp : qp ≤ ql.length)  :
    Ct Tryz.prog 136 [.pointer (some ⟨qb, 0, none⟩)] [cb qb qa qc ql qp qs] (fun w => seesC w qa qc ql [cb qb qa qc ql qp qs]) (fun v A' => ∃ qp' qs' r0, qp' ≤ ql.length ∧ (r0.length ≤ 64) ∧ v = str r0 ∧ A' = [cb qb qa qc ql qp' qs']) := by
  refine Ct.intro Tryz.func136 rfl Tryz.ntmps136 (lb rfl) fun w0 hpre => ?_
  have hs_qa : Sees w0 _ _ _ _ := hpre.1
  refine jC <| jF <| jA (jG (v := str []) rfl) <| jE <| jB <| jC <| jC <| jF <| jA (jD (v := .pointer (some ⟨qb, 0, none⟩)) rfl) ?_
  refine jH rfl (jI [0] Tryz.call99 rfl (D_once qb qa qc ql qp qs (by omega) (by omega) 12 (by omega)) rfl (fun w hw => ⟨hw.seeOut_ hs_qa (hpre.2), hw.apart hs_qa (hpre.2) (by simp)⟩)) ?_
  rintro _ _ ⟨_, ⟨qp_1, qs_2, b_4, fq_3, rfl, rfl⟩, rfl⟩
  refine jE <| jB ?_
  rcases Bool.eq_false_or_eq_true (b_4) with h_6 | h_6
  · refine jW (cB h_6) <| jC <| jF <| jA (jD (v := .pointer (some ⟨qb, 0, none⟩)) rfl) ?_
    refine jH rfl (jI [] Tryz.call156 rfl (D_long (97 : UInt8) 40 (by omega) (by omega)) rfl (fun _ _ => trivial)) ?_
    rintro _ _ ⟨_, ⟨u_7, f_8, rfl, rfl⟩, rfl⟩
    refine jH rfl (jI [] Tryz.call156 rfl (D_long (97 : UInt8) 41 (by omega) (by omega)) rfl (fun _ _ => trivial)) ?_
    rintro _ _ ⟨_, ⟨u_10, f_11, rfl, rfl⟩, rfl⟩
    refine jH rfl (kH (ps := [(0, str []), (1, str [97, 32, 98]), (2, str [110, 47, 42]), (3, str [127]), (4, str u_7), (5, str u_10)]) (cur := #[str [], str [97, 32, 98], str [110, 47, 42], str [127], str u_7, str u_10]) ku kt Tryz.zeroValue9 rfl (by kernel_rfl) (by decide) (by decide)) ?_
    rintro _ _ ⟨a_13, rfl, rfl⟩
    refine jH rfl (jI [1, 0] Tryz.call158 rfl (D_pick qb qa qc ql qp_1 qs_2 a_13 6 ([[], [97, 32, 98], [110, 47, 42], [127], u_7, u_10] : List Str) (by omega) (by omega) (by simp) (by simp)) rfl (fun w hw => ⟨hw.seeOut_ hs_qa (hpre.2), hw.apart hs_qa (hpre.2) (by simp)⟩)) ?_
    rintro _ _ ⟨_, ⟨qp_14, qs_15, u_17, fq_16, f_18, rfl, rfl⟩, rfl⟩
    have hlu_17 : u_17.length ≤ 64 := by have hx_ := f_18; simp only [List.mem_cons, List.not_mem_nil, or_false] at hx_; rcases hx_ with hx_ | hx_ | hx_ | hx_ | hx_ | hx_ <;> first | (rw [hx_]; decide) | (rw [hx_]; omega)
    refine jA (jG (v := str u_17) rfl) <| jE <| jB <| jN <| jX <| jV (.inl rfl) rfl (jJ (v := str u_17) rfl) (List.Sublist.refl _) ?_
    exact ⟨qp_14, qs_15, u_17, (by omega), (by first | omega | (simp only [LE]; omega)), rfl, rfl⟩
  refine jR (cB h_6) <| jT <| jB <| jC <| jF <| jA (jD (v := .pointer (some ⟨qb, 0, none⟩)) rfl) ?_
  refine jH rfl (jI [0] Tryz.call157 rfl (D_key qb qa qc ql qp_1 qs_2 (by omega) (by omega)) rfl (fun w hw => ⟨hw.seeOut_ hs_qa (hpre.2), hw.apart hs_qa (hpre.2) (by simp)⟩)) ?_
  rintro _ _ ⟨_, ⟨qp_20, qs_21, u_23, fq_22, f_24, rfl, rfl⟩, rfl⟩
  refine jA (jG (v := str u_23) rfl) <| jE <| jB <| jN <| jV (.inl rfl) rfl (jJ (v := str u_23) rfl) (List.Sublist.refl _) ?_
  exact ⟨qp_20, qs_21, u_23, (by omega), (by first | omega | (simp only [LE]; omega)), rfl, rfl⟩

end Go.Proofs.YtjncpgcccgdeiaaGreatDoor

set_option linter.unusedSimpArgs false
set_option linter.unusedVariables false
set_option linter.unnecessarySimpa false
namespace Go.Proofs.YtjncpgcccgdeiaaGreatDoor
open Go Go.RowKit
attribute [local irreducible] JL JC JQ JO LO PO JA JX Ct

theorem D_store (qb : Nat) (qa : Option Addr) (qc : Nat) (ql : Str) (qp : Nat) (qs : Int) (hql : ql.length ≤ 1048576) (hqp : qp ≤ ql.length)  :
    Ct Tryz.prog 135 [.pointer (some ⟨qb, 0, none⟩)] [cb qb qa qc ql qp qs] (fun w => seesC w qa qc ql [cb qb qa qc ql qp qs]) (fun v A' => ∃ qp' qs' r0a r0c r0, qp' ≤ ql.length ∧ (okC' 8 64 r0) ∧ v = .slice r0a r0.length r0c ∧ A' = cb qb qa qc ql qp' qs' :: [rC r0a r0c r0]) := by
  refine Ct.intro Tryz.func135 rfl Tryz.ntmps135 (lb rfl) fun w0 hpre => ?_
  have hs_qa : Sees w0 _ _ _ _ := hpre.1
  refine jC <| jF <| jA (jG (v := .slice none 0 0) rfl) <| jE <| jB <| jC <| jF ?_
  refine jH rfl (kH (ps := []) (cur := #[]) kf kh kw rfl (by kernel_rfl) (by decide) (by decide)) ?_
  rintro _ _ ⟨a_1, rfl, rfl⟩
  refine jA (jG (v := .slice a_1 0 0) rfl) <| jE <| jB <| jC <| jC <| jF <| jA (jG (v := iv 0) rfl) <| jE <| jB <| jf ?_
  refine kD (fun k_ e_ L_ => ∃ i_ : Nat, ∃ p_q : Nat, ∃ s_q : Int, ∃ o_a : Option Addr, ∃ o_c : Nat, ∃ o_ : List Cell, (p_q ≤ ql.length) ∧ (i_ ≤ 8) ∧ (okC' i_ 64 o_) ∧ e_ 0 = .pointer (some ⟨qb, 0, none⟩) ∧ e_ 2 = .slice none 0 0 ∧ e_ 3 = .slice o_a o_.length o_c ∧ e_ 4 = nv i_ ∧ L_ = [rC o_a o_c o_, cb qb qa qc ql p_q s_q] ∧ k_ = 9 - i_) _ ⟨0, qp, qs, a_1, 0, ([] : List Cell), (by omega), (by omega), (⟨by simp, fun c hc => by cases hc⟩), rfl, rfl, rfl, rfl, rfl, rfl⟩ ?_
  rintro _ e_2 _ ⟨i_, p_q, s_q, o_a, o_c, o_, hpq_, hi, hO, he_3, he_4, he_5, he_6, rfl, rfl⟩
  refine jC <| jC <| jF <| jA (jD (v := nv i_) he_6) <| jA (jD (v := .pointer (some ⟨qb, 0, none⟩)) he_3) ?_
  refine jH rfl (jI [1] Tryz.call73 rfl (D_below qb qa qc ql p_q s_q (by omega) (by omega) 8 (by omega)) rfl (fun w hw => ⟨hw.seeOut_ hs_qa (hpre.2), hw.apart hs_qa (hpre.2) (by simp)⟩)) ?_
  rintro _ _ ⟨_, ⟨qp_7, qs_8, n_10, fq_9, f_11, rfl, rfl⟩, rfl⟩
  refine jA (jl rfl rfl) <| jE <| jB ?_
  by_cases h_13 : ((i_ : Nat) : Int) < ((n_10 : Nat) : Int)
  · have hO1 := hO.1
    refine jW (cB (dT h_13)) <| jT <| jB <| jC <| jf <| jF <| jA (jD (v := .slice o_a o_.length o_c) he_5) <| jA (jD (v := .pointer (some ⟨qb, 0, none⟩)) he_3) ?_
    refine jH rfl (jI [0] Tryz.call157 rfl (D_key qb qa qc ql qp_7 qs_8 (by omega) (by omega)) rfl (fun w hw => ⟨hw.seeOut_ hs_qa (hpre.2), hw.apart hs_qa (hpre.2) (by simp)⟩)) ?_
    rintro _ _ ⟨_, ⟨qp_14, qs_15, u_17, fq_16, f_18, rfl, rfl⟩, rfl⟩
    refine jA (jD (v := .pointer (some ⟨qb, 0, none⟩)) he_3) ?_
    refine jH rfl (jI [0] Tryz.call137 rfl (D_val qb qa qc ql qp_14 qs_15 (by omega) (by omega)) rfl (fun w hw => ⟨hw.seeOut_ hs_qa (hpre.2), hw.apart hs_qa (hpre.2) (by simp)⟩)) ?_
    rintro _ _ ⟨_, ⟨qp_20, qs_21, u_23, fq_22, f_24, rfl, rfl⟩, rfl⟩
    refine jH rfl (jI [] Tryz.call134 rfl (C_sPutKey o_a o_c o_ u_17 u_23 (by omega) (by omega)) rfl (fun w hw => hw.see (i := 1) rfl)) ?_
    rintro _ _ ⟨_, ⟨a_26, c_27, rfl, rfl⟩, rfl⟩
    refine jA (jG (v := .slice a_26 ((putKey o_ u_17 u_23).length) c_27) rfl) <| jE <| jm <| jB <| jF <| jA (jD (v := nv i_) he_6) <| jA (jc (c := ((i_ + 1 : Nat) : Int)) rfl rfl (wr (by omega))) <| jA (jG (v := iv ((i_ + 1 : Nat) : Int)) rfl) <| jE <| kB [0, 0] (A := [rC a_26 c_27 (putKey o_ u_17 u_23), cb qb qa qc ql qp_20 qs_21]) rfl ?_
    refine jq (9 - (i_ + 1)) (by omega) ⟨(i_ + 1), qp_20, qs_21, a_26, c_27, (putKey o_ u_17 u_23), (by omega), (by omega), (okC'.put hO _ _ (by omega) (by omega)), he_3, he_4, rfl, rfl, rfl, rfl⟩
  refine jR (cB (dF h_13)) <| jx <| jb <| jb <| jy <| jB <| jC <| jF <| jA (jD (v := .slice o_a o_.length o_c) he_5) <| jA (jG (v := .slice o_a o_.length o_c) rfl) ?_
  refine jE <| jB <| jN <| jV (.inl rfl) rfl (jJ (v := .slice o_a o_.length o_c) rfl) (List.Sublist.refl _) ?_
  exact ⟨qp_7, qs_8, o_a, o_c, o_, (by omega), (hO.mono (by omega)), rfl, rfl⟩

end Go.Proofs.YtjncpgcccgdeiaaGreatDoor

set_option linter.unusedSimpArgs false
set_option linter.unusedVariables false
set_option linter.unnecessarySimpa false
namespace Go.Proofs.YtjncpgcccgdeiaaGreatDoor
open Go Go.RowKit
theorem okC'.snoc {n k : Nat} {s : List Cell} {a b : Str} (h : okC' n k s) (h1 : a.length ≤ k) (h2 : b.length ≤ k) : okC' (n + 1) k (s ++ [(a, b)]) := by
  refine ⟨by have := h.1; simp only [List.length_append, List.length_cons, List.length_nil]; omega, fun c hc => ?_⟩
  rcases List.mem_append.1 hc with hc | hc
  · exact h.2 c hc
  · rw [List.mem_singleton] at hc
    subst hc
    exact ⟨h1, h2⟩
theorem okC'.okC {n k : Nat} {s : List Cell} (h : okC' n k s) (hn : n ≤ 1000000000) (hk : k ≤ 1000000000) : okC s := short_okC (fun c hc => ⟨by have := (h.2 c hc).1; omega, by have := (h.2 c hc).2; omega⟩) (by have := h.1; omega)
theorem recGo_len : ∀ (l : List Cell) (b : Str), (recGo b l).length ≤ 4000
  | [], b => by
    unfold recGo recEnd
    split
    · exact Nat.zero_le _
    · omega
  | c :: l, b => by
    unfold recGo
    split
    · exact Nat.zero_le _
    · exact recGo_len l _
theorem recText_len (seq : Int) (l : List Cell) : (recText seq l).length ≤ 4000 := by
  unfold recText
  split
  · exact recGo_len _ _
  · exact Nat.zero_le _
theorem new_okz {s : List Cell} (h : okC s) : (DD.new s).okz := by
  refine ⟨by show 2 ≤ _; decide, fun x hx => ?_, Nat.zero_le _⟩
  simp only [DD.new, List.mem_cons, List.not_mem_nil, or_false] at hx
  rcases hx with rfl | rfl
  · exact ⟨h⟩
  · exact ⟨⟨Nat.zero_le _, fun j hj => absurd hj (Nat.not_lt_zero j)⟩⟩
theorem new_lim {s : List Cell} {n : Nat} (h : s.length ≤ n) (hn : 2 ≤ n) : (DD.new s).lim n := by
  refine ⟨hn, fun x hx => ?_⟩
  simp only [DD.new, List.mem_cons, List.not_mem_nil, or_false] at hx
  rcases hx with rfl | rfl
  · exact ⟨h⟩
  · exact ⟨Nat.zero_le _⟩
theorem foldB_len (d : DD) : d.foldB.1.slots.length = d.slots.length := by
  unfold DD.foldB
  split
  · exact List.length_set
  · rfl
theorem foldE_len (d : DD) : d.foldE.1.slots.length = d.slots.length := by
  unfold DD.foldE
  split
  · exact List.length_set
  · rfl
theorem foldB_jlen {d : DD} {n : Nat} (h : d.jt.length ≤ n) : d.foldB.1.jt.length ≤ n := by
  unfold DD.foldB
  split
  · simp only [List.length_take]; omega
  · exact h
theorem foldE_jlen {d : DD} {n : Nat} (h : d.jt.length ≤ n) : d.foldE.1.jt.length ≤ n := by
  unfold DD.foldE
  split <;> exact h
/-- What is told of a drawn disk. -/
structure Drawn (d : DX) : Prop where
  z : d.dat.okz
  l : d.dat.lim 1000000000
  j : d.jt.length ≤ 100000
structure Drawn2 (d : DX) : Prop extends Drawn d where
  n : d.l.length = 2
theorem Drawn.of {d y : DX} (h : Drawn d) (h1 : y.l.map OX.t = d.l.map OX.t) (h2 : y.jt.length ≤ 100000) : Drawn y := by
  refine ⟨⟨?_, ?_, ?_⟩, ⟨?_, ?_⟩, h2⟩
  · show (y.l.map OX.t).length ≤ _; rw [h1]; exact h.z.k0
  · show ∀ s ∈ y.l.map OX.t, _; rw [h1]; exact h.z.k1
  · show y.jt.length ≤ _; omega
  · show (y.l.map OX.t).length ≤ _; rw [h1]; exact h.l.l0
  · show ∀ s ∈ y.l.map OX.t, _; rw [h1]; exact h.l.l1
theorem len_map {d e : DX} (h : d.dat.slots.length = e.dat.slots.length) : d.l.length = e.l.length := by simpa only [DX.dat, List.length_map] using h
theorem drawn_new {y : DX} {s : List Cell} (h : y.dat = DD.new s) (hs : okC' 9 64 s) : Drawn2 y := by
  have hj : y.jt = [] := congrArg DD.jt h
  refine ⟨⟨by rw [h]; exact new_okz (hs.okC (by decide) (by decide)), by rw [h]; exact new_lim (by have := hs.1; omega) (by decide), by rw [hj]; exact Nat.zero_le _⟩, ?_⟩
  have := congrArg (fun q : DD => q.slots.length) h
  simpa only [DX.dat, List.length_map, DD.new, List.length_cons, List.length_nil] using this
theorem Drawn2.of {d y : DX} (h : Drawn2 d) (h1 : y.l = d.l) (h2 : y.jt.length ≤ 100000) : Drawn2 y := ⟨h.toDrawn.of (by rw [h1]) h2, by rw [h1]; exact h.n⟩
theorem Drawn2.foldB {d y : DX} (h : Drawn2 d) (hy : y.dat = d.dat.foldB.1) : Drawn2 y := by
  have hj : y.jt = d.dat.foldB.1.jt := congrArg DD.jt hy
  refine ⟨⟨by rw [hy]; exact foldB_okz h.z, by rw [hy]; exact foldB_lim h.z h.l (by decide), by rw [hj]; exact foldB_jlen h.j⟩, ?_⟩
  rw [len_map (d := y) (e := d) (by rw [hy, foldB_len])]
  exact h.n
theorem Drawn2.foldE {d y : DX} (h : Drawn2 d) (hy : y.dat = d.dat.foldE.1) : Drawn2 y := by
  have hj : y.jt = d.dat.foldE.1.jt := congrArg DD.jt hy
  refine ⟨⟨by rw [hy]; exact foldE_okz h.z, by rw [hy]; exact foldE_lim h.l, by rw [hj]; exact foldE_jlen h.j⟩, ?_⟩
  rw [len_map (d := y) (e := d) (by rw [hy, foldE_len])]
  exact h.n
theorem Drawn.set {d : DX} {a : Option Addr} {c i : Nat} {x : OX} (h : Drawn d) (hz : x.t.okz) (hl : x.t.lim 1000000000) : Drawn (⟨a, c, d.l.set i x, d.jt, d.js⟩ : DX) := by
  refine ⟨⟨?_, fun s hs => ?_, h.z.k2⟩, ⟨?_, fun s hs => ?_⟩, h.j⟩
  · show ((d.l.set i x).map OX.t).length ≤ _; rw [List.length_map, List.length_set]; have := h.z.k0; simpa only [DX.dat, List.length_map] using this
  · have hs : s ∈ (d.l.set i x).map OX.t := hs
    rw [set_dat] at hs
    rcases mem_set hs with hs | rfl
    · exact h.z.k1 s hs
    · exact hz
  · show ((d.l.set i x).map OX.t).length ≤ _; rw [List.length_map, List.length_set]; have := h.l.l0; simpa only [DX.dat, List.length_map] using this
  · have hs : s ∈ (d.l.set i x).map OX.t := hs
    rw [set_dat] at hs
    rcases mem_set hs with hs | rfl
    · exact h.l.l1 s hs
    · exact hl
theorem Drawn.take {d : DX} {a : Option Addr} {c i : Nat} (h : Drawn d) : Drawn (⟨a, c, d.l.take i, d.jt, d.js⟩ : DX) := by
  have hm : ∀ s ∈ (d.l.take i).map OX.t, s ∈ d.dat.slots := fun s hs => by
    obtain ⟨x, hx, rfl⟩ := List.mem_map.1 hs
    exact List.mem_map_of_mem (List.mem_of_mem_take hx)
  have hn : ((d.l.take i).map OX.t).length ≤ d.dat.slots.length := by simp only [DX.dat, List.length_map, List.length_take]; omega
  exact ⟨⟨Nat.le_trans hn h.z.k0, fun s hs => h.z.k1 s (hm s hs), h.z.k2⟩, ⟨Nat.le_trans hn h.l.l0, fun s hs => h.l.l1 s (hm s hs)⟩, h.j⟩
theorem flat_front {α : Type} {f : α → List Value} {k : Nat} (hf : ∀ x, (f x).length = k) : ∀ (l : List α) (q : Nat), (l.flatMap f).take (q * k) = (l.take q).flatMap f
  | [], q => by simp
  | x :: l, 0 => by simp
  | x :: l, q + 1 => by
    rw [List.flatMap_cons, List.take_succ_cons, List.flatMap_cons, show (q + 1) * k = (f x).length + q * k by rw [hf x, Nat.succ_mul, Nat.add_comm], List.take_length_add_append, flat_front hf l q]
attribute [local irreducible] JL JC JQ JO LO PO JA JX Ct

theorem D_any02 (qb : Nat) (qa : Option Addr) (qc : Nat) (ql : Str) (qp : Nat) (qs : Int) (hql : ql.length ≤ 1048576) (hqp : qp ≤ ql.length)  :
    Ct Tryz.prog 100 [.pointer (some ⟨qb, 0, none⟩)] [cb qb qa qc ql qp qs] (fun w => seesC w qa qc ql [cb qb qa qc ql qp qs]) (fun v A' => ∃ qp' qs' r0a r0c r0, qp' ≤ ql.length ∧ (okC' 9 64 r0) ∧ v = .slice r0a r0.length r0c ∧ A' = cb qb qa qc ql qp' qs' :: [rC r0a r0c r0]) := by
  refine Ct.intro Tryz.func100 rfl Tryz.ntmps100 (lb rfl) fun w0 hpre => ?_
  have hs_qa : Sees w0 _ _ _ _ := hpre.1
  refine jC <| jF <| jA (jG (v := .slice none 0 0) rfl) <| jE <| jB <| jC <| jF <| jA (jD (v := .pointer (some ⟨qb, 0, none⟩)) rfl) ?_
  refine jH rfl (jI [0] Tryz.call135 rfl (D_store qb qa qc ql qp qs (by omega) (by omega)) rfl (fun w hw => ⟨hw.seeOut_ hs_qa (hpre.2), hw.apart hs_qa (hpre.2) (by simp)⟩)) ?_
  rintro _ _ ⟨_, ⟨qp_1, qs_2, l_4a, l_4c, l_4, fq_3, f_5, rfl, rfl⟩, rfl⟩
  have hO1_ := f_5.1
  refine jA (jG (v := .slice l_4a l_4.length l_4c) rfl) <| jE <| jB <| jC <| jC <| jF <| jA (jD (v := .pointer (some ⟨qb, 0, none⟩)) rfl) ?_
  refine jH rfl (jI [0] Tryz.call99 rfl (D_once qb qa qc ql qp_1 qs_2 (by omega) (by omega) 8 (by omega)) rfl (fun w hw => ⟨hw.seeOut_ hs_qa (hpre.2), hw.apart hs_qa (hpre.2) (by simp)⟩)) ?_
  rintro _ _ ⟨_, ⟨qp_7, qs_8, b_10, fq_9, rfl, rfl⟩, rfl⟩
  refine jE <| jB ?_
  rcases Bool.eq_false_or_eq_true (b_10) with h_12 | h_12
  · refine jW (cB h_12) <| jF <| jA (jD (v := .slice l_4a l_4.length l_4c) rfl) <| jA (jD (v := .pointer (some ⟨qb, 0, none⟩)) rfl) ?_
    refine jH rfl (jI [0] Tryz.call136 rfl (D_anyKey qb qa qc ql qp_7 qs_8 (by omega) (by omega)) rfl (fun w hw => ⟨hw.seeOut_ hs_qa (hpre.2), hw.apart hs_qa (hpre.2) (by simp)⟩)) ?_
    rintro _ _ ⟨_, ⟨qp_13, qs_14, u_16, fq_15, f_17, rfl, rfl⟩, rfl⟩
    refine jA (jD (v := .pointer (some ⟨qb, 0, none⟩)) rfl) ?_
    refine jH rfl (jI [0] Tryz.call137 rfl (D_val qb qa qc ql qp_13 qs_14 (by omega) (by omega)) rfl (fun w hw => ⟨hw.seeOut_ hs_qa (hpre.2), hw.apart hs_qa (hpre.2) (by simp)⟩)) ?_
    rintro _ _ ⟨_, ⟨qp_19, qs_20, u_22, fq_21, f_23, rfl, rfl⟩, rfl⟩
    refine jA (kW (ps := [(0, str u_16), (1, str u_22)]) (cs := [str u_16, str u_22]) rfl (by kernel_rfl)) ?_
    refine jH rfl (kH (ps := [(0, .agg #[str u_16, str u_22])]) (cur := #[str u_16, str u_22]) kf kh kw rfl (by kernel_rfl) (by decide) (by decide)) ?_
    rintro _ _ ⟨a_25, rfl, rfl⟩
    refine jH rfl (kU 2 (q := 1) (news := ([(u_16, u_22)] : List Cell).flatMap encC) (n' := (l_4 ++ ([(u_16, u_22)] : List Cell)).length) (cs' := (l_4 ++ ([(u_16, u_22)] : List Cell)).flatMap encC) rfl kf kf ky rfl (by' := 32) rfl rfl rfl rfl rfl (fun w hw => Src.sees (hw.see (i := 0) rfl) (oneC _)) (by (try simp only [LE]); omega) (by (try simp only [LE]); omega) (by simp only [List.length_append, List.length_take, List.length_drop, List.length_cons, List.length_nil] <;> first | rfl | omega) (by simp only [List.flatMap_append])) ?_
    rintro _ _ ⟨a_26, c_27, rfl, rfl⟩
    refine jA (jG (v := .slice a_26 ((l_4 ++ ([(u_16, u_22)] : List Cell)).length) c_27) rfl) <| jE <| jB <| jC <| jF <| jA (jD (v := .slice a_26 ((l_4 ++ ([(u_16, u_22)] : List Cell)).length) c_27) rfl) <| jA (jG (v := .slice a_26 ((l_4 ++ ([(u_16, u_22)] : List Cell)).length) c_27) rfl) <| jE <| jB <| jN ?_
    refine kM (pick_perm [1, 1] (A := [cb qb qa qc ql qp_19 qs_20, rC a_26 c_27 (l_4 ++ ([(u_16, u_22)] : List Cell))]) (F := [Res.row (.slice a_25 1 1) 48 2 1 (([(u_16, u_22)] : List Cell).flatMap encC)]) rfl).symm <| jV (.inl rfl) rfl (jJ (v := .slice a_26 ((l_4 ++ ([(u_16, u_22)] : List Cell)).length) c_27) rfl) (tS 2 _) ?_
    exact ⟨qp_19, qs_20, a_26, c_27, (l_4 ++ ([(u_16, u_22)] : List Cell)), (by omega), (by first | exact okC'.snoc (by assumption) (by omega) (by omega) | exact okC'.mono (by assumption) (by omega)), rfl, rfl⟩
  refine jR (cB h_12) <| jT <| jB <| jC <| jF <| jA (jD (v := .slice l_4a l_4.length l_4c) rfl) <| jA (jG (v := .slice l_4a l_4.length l_4c) rfl) <| jE <| jB <| jN ?_
  refine jV (.inl rfl) rfl (jJ (v := .slice l_4a l_4.length l_4c) rfl) (List.Sublist.refl _) ?_
  exact ⟨qp_7, qs_8, l_4a, l_4c, l_4, (by omega), (by first | exact okC'.snoc (by assumption) (by omega) (by omega) | exact okC'.mono (by assumption) (by omega)), rfl, rfl⟩

theorem D_list21 (qb : Nat) (qa : Option Addr) (qc : Nat) (ql : Str) (qp : Nat) (qs : Int) (hql : ql.length ≤ 1048576) (hqp : qp ≤ ql.length)  :
    Ct Tryz.prog 181 [.pointer (some ⟨qb, 0, none⟩)] [cb qb qa qc ql qp qs] (fun w => seesC w qa qc ql [cb qb qa qc ql qp qs]) (fun v A' => ∃ qp' qs' r0a r0c r0, qp' ≤ ql.length ∧ (okC' 40 5000 r0) ∧ v = .slice r0a r0.length r0c ∧ A' = cb qb qa qc ql qp' qs' :: [rC r0a r0c r0]) := by
  refine Ct.intro Tryz.func181 rfl Tryz.ntmps181 (lb rfl) fun w0 hpre => ?_
  have hs_qa : Sees w0 _ _ _ _ := hpre.1
  refine jC <| jF <| jA (jG (v := .slice none 0 0) rfl) <| jE <| jB <| jC <| jF ?_
  refine jH rfl (kH (ps := []) (cur := #[]) kf kh kw rfl (by kernel_rfl) (by decide) (by decide)) ?_
  rintro _ _ ⟨a_1, rfl, rfl⟩
  refine jA (jG (v := .slice a_1 0 0) rfl) <| jE <| jB <| jC <| jC <| jF <| jA (jG (v := iv 0) rfl) <| jE <| jB <| jf ?_
  refine kD (fun k_ e_ L_ => ∃ i_ : Nat, ∃ p_q : Nat, ∃ s_q : Int, ∃ o_a : Option Addr, ∃ o_c : Nat, ∃ o_ : List Cell, (p_q ≤ ql.length) ∧ (i_ ≤ 4) ∧ (okC' i_ 5000 o_) ∧ e_ 0 = .pointer (some ⟨qb, 0, none⟩) ∧ e_ 2 = .slice none 0 0 ∧ e_ 3 = .slice o_a o_.length o_c ∧ e_ 4 = nv i_ ∧ L_ = [rC o_a o_c o_, cb qb qa qc ql p_q s_q] ∧ k_ = 5 - i_) _ ⟨0, qp, qs, a_1, 0, ([] : List Cell), (by omega), (by omega), (⟨by simp, fun c hc => by cases hc⟩), rfl, rfl, rfl, rfl, rfl, rfl⟩ ?_
  rintro _ e_2 _ ⟨i_, p_q, s_q, o_a, o_c, o_, hpq_, hi, hO, he_3, he_4, he_5, he_6, rfl, rfl⟩
  have hO1 := hO.1
  refine jC <| jC <| jF <| jA (jD (v := nv i_) he_6) <| jA (jD (v := .pointer (some ⟨qb, 0, none⟩)) he_3) ?_
  refine jH rfl (jI [1] Tryz.call73 rfl (D_below qb qa qc ql p_q s_q (by omega) (by omega) 4 (by omega)) rfl (fun w hw => ⟨hw.seeOut_ hs_qa (hpre.2), hw.apart hs_qa (hpre.2) (by simp)⟩)) ?_
  rintro _ _ ⟨_, ⟨qp_7, qs_8, n_10, fq_9, f_11, rfl, rfl⟩, rfl⟩
  refine jA (jl rfl rfl) <| jE <| jB ?_
  by_cases h_13 : ((i_ : Nat) : Int) < ((n_10 : Nat) : Int)
  · refine jW (cB (dT h_13)) <| jT <| jB <| jC <| jf <| jF <| jA (jD (v := .slice o_a o_.length o_c) he_5) <| jA (jD (v := .pointer (some ⟨qb, 0, none⟩)) he_3) ?_
    refine jH rfl (jI [0] Tryz.call157 rfl (D_key qb qa qc ql qp_7 qs_8 (by omega) (by omega)) rfl (fun w hw => ⟨hw.seeOut_ hs_qa (hpre.2), hw.apart hs_qa (hpre.2) (by simp)⟩)) ?_
    rintro _ _ ⟨_, ⟨qp_14, qs_15, u_17, fq_16, f_18, rfl, rfl⟩, rfl⟩
    refine jA (jD (v := .pointer (some ⟨qb, 0, none⟩)) he_3) <| jA (jD (v := .pointer (some ⟨qb, 0, none⟩)) he_3) ?_
    refine jH rfl (jI [0] Tryz.call73 rfl (D_below qb qa qc ql qp_14 qs_15 (by omega) (by omega) 4 (by omega)) rfl (fun w hw => ⟨hw.seeOut_ hs_qa (hpre.2), hw.apart hs_qa (hpre.2) (by simp)⟩)) ?_
    rintro _ _ ⟨_, ⟨qp_20, qs_21, n_23, fq_22, f_24, rfl, rfl⟩, rfl⟩
    refine jH rfl (jI [0] Tryz.call159 rfl (D_text qb qa qc ql qp_20 qs_21 (by omega) (by omega) ((n_23 : Nat) : Int) (by omega)) rfl (fun w hw => ⟨hw.seeOut_ hs_qa (hpre.2), hw.apart hs_qa (hpre.2) (by simp)⟩)) ?_
    rintro _ _ ⟨_, ⟨qp_26, qs_27, u_29, fq_28, f_30, rfl, rfl⟩, rfl⟩
    refine jA (kW (ps := [(0, str u_17), (1, str u_29)]) (cs := [str u_17, str u_29]) rfl (by kernel_rfl)) ?_
    refine jH rfl (kH (ps := [(0, .agg #[str u_17, str u_29])]) (cur := #[str u_17, str u_29]) kf kh kw rfl (by kernel_rfl) (by decide) (by decide)) ?_
    rintro _ _ ⟨a_32, rfl, rfl⟩
    refine jH rfl (kU 2 (q := 1) (news := ([(u_17, u_29)] : List Cell).flatMap encC) (n' := (o_ ++ ([(u_17, u_29)] : List Cell)).length) (cs' := (o_ ++ ([(u_17, u_29)] : List Cell)).flatMap encC) rfl kf kf ky rfl (by' := 32) rfl rfl rfl rfl rfl (fun w hw => Src.sees (hw.see (i := 0) rfl) (oneC _)) (by (try simp only [LE]); omega) (by (try simp only [LE]); omega) (by simp only [List.length_append, List.length_take, List.length_drop, List.length_cons, List.length_nil] <;> first | rfl | omega) (by simp only [List.flatMap_append])) ?_
    rintro _ _ ⟨a_33, c_34, rfl, rfl⟩
    refine jA (jG (v := .slice a_33 ((o_ ++ ([(u_17, u_29)] : List Cell)).length) c_34) rfl) <| jE <| jm <| jB <| jF <| jA (jD (v := nv i_) he_6) <| jA (jc (c := ((i_ + 1 : Nat) : Int)) rfl rfl (wr (by omega))) <| jA (jG (v := iv ((i_ + 1 : Nat) : Int)) rfl) <| jE <| kB [2, 1] (A := [rC a_33 c_34 (o_ ++ ([(u_17, u_29)] : List Cell)), cb qb qa qc ql qp_26 qs_27]) rfl ?_
    refine jq (5 - (i_ + 1)) (by omega) ⟨(i_ + 1), qp_26, qs_27, a_33, c_34, (o_ ++ ([(u_17, u_29)] : List Cell)), (by omega), (by omega), (okC'.snoc hO (by omega) (by omega)), he_3, he_4, rfl, rfl, rfl, rfl⟩
  refine jR (cB (dF h_13)) <| jx <| jb <| jb <| jy <| jB <| jC <| jC <| jF <| jA (jD (v := .pointer (some ⟨qb, 0, none⟩)) he_3) ?_
  refine jH rfl (jI [0] Tryz.call99 rfl (D_once qb qa qc ql qp_7 qs_8 (by omega) (by omega) 12 (by omega)) rfl (fun w hw => ⟨hw.seeOut_ hs_qa (hpre.2), hw.apart hs_qa (hpre.2) (by simp)⟩)) ?_
  rintro _ _ ⟨_, ⟨qp_35, qs_36, b_38, fq_37, rfl, rfl⟩, rfl⟩
  refine jE <| jB ?_
  rcases Bool.eq_false_or_eq_true (b_38) with h_40 | h_40
  · refine jW (cB h_40) <| jF <| jA (jD (v := .slice o_a o_.length o_c) he_5) <| jA (jD (v := .pointer (some ⟨qb, 0, none⟩)) he_3) ?_
    refine jH rfl (jI [0] Tryz.call136 rfl (D_anyKey qb qa qc ql qp_35 qs_36 (by omega) (by omega)) rfl (fun w hw => ⟨hw.seeOut_ hs_qa (hpre.2), hw.apart hs_qa (hpre.2) (by simp)⟩)) ?_
    rintro _ _ ⟨_, ⟨qp_41, qs_42, u_44, fq_43, f_45, rfl, rfl⟩, rfl⟩
    refine jA (jD (v := .pointer (some ⟨qb, 0, none⟩)) he_3) ?_
    refine jH rfl (jI [0] Tryz.call137 rfl (D_val qb qa qc ql qp_41 qs_42 (by omega) (by omega)) rfl (fun w hw => ⟨hw.seeOut_ hs_qa (hpre.2), hw.apart hs_qa (hpre.2) (by simp)⟩)) ?_
    rintro _ _ ⟨_, ⟨qp_47, qs_48, u_50, fq_49, f_51, rfl, rfl⟩, rfl⟩
    refine jA (kW (ps := [(0, str u_44), (1, str u_50)]) (cs := [str u_44, str u_50]) rfl (by kernel_rfl)) ?_
    refine jH rfl (kH (ps := [(0, .agg #[str u_44, str u_50])]) (cur := #[str u_44, str u_50]) kf kh kw rfl (by kernel_rfl) (by decide) (by decide)) ?_
    rintro _ _ ⟨a_53, rfl, rfl⟩
    refine jH rfl (kU 2 (q := 1) (news := ([(u_44, u_50)] : List Cell).flatMap encC) (n' := (o_ ++ ([(u_44, u_50)] : List Cell)).length) (cs' := (o_ ++ ([(u_44, u_50)] : List Cell)).flatMap encC) rfl kf kf ky rfl (by' := 32) rfl rfl rfl rfl rfl (fun w hw => Src.sees (hw.see (i := 0) rfl) (oneC _)) (by (try simp only [LE]); omega) (by (try simp only [LE]); omega) (by simp only [List.length_append, List.length_take, List.length_drop, List.length_cons, List.length_nil] <;> first | rfl | omega) (by simp only [List.flatMap_append])) ?_
    rintro _ _ ⟨a_54, c_55, rfl, rfl⟩
    refine jA (jG (v := .slice a_54 ((o_ ++ ([(u_44, u_50)] : List Cell)).length) c_55) rfl) <| jE <| jB <| jC <| jC <| jF <| jA (jD (v := .pointer (some ⟨qb, 0, none⟩)) he_3) ?_
    refine jH rfl (jI [1] Tryz.call99 rfl (D_once qb qa qc ql qp_47 qs_48 (by omega) (by omega) 40 (by omega)) rfl (fun w hw => ⟨hw.seeOut_ hs_qa (hpre.2), hw.apart hs_qa (hpre.2) (by simp)⟩)) ?_
    rintro _ _ ⟨_, ⟨qp_56, qs_57, b_59, fq_58, rfl, rfl⟩, rfl⟩
    refine jE <| jB ?_
    rcases Bool.eq_false_or_eq_true (b_59) with h_61 | h_61
    · refine jW (cB h_61) <| jC <| jF <| jA (jG (v := iv 0) rfl) <| jE <| jB <| jf <| kD (fun k_ e_ L_ => ∃ y_ : Nat, ∃ v_a : Option Addr, ∃ v_c : Nat, ∃ v_ : List Cell, (y_ ≤ 30) ∧ (okC' (5 + y_) 5000 v_) ∧ e_ 2 = .slice none 0 0 ∧ e_ 3 = .slice v_a v_.length v_c ∧ e_ 5 = nv y_ ∧ L_ = [cb qb qa qc ql qp_56 qs_57, Res.row (.slice a_53 1 1) 48 2 1 (([(u_44, u_50)] : List Cell).flatMap encC), rC v_a v_c v_] ∧ k_ = 31 - y_) _ ⟨0, a_54, c_55, (o_ ++ ([(u_44, u_50)] : List Cell)), (by omega), (by first | exact okC'.mono (okC'.snoc hO (by omega) (by omega)) (by omega) | exact hO.mono (by omega)), he_4, rfl, rfl, rfl, rfl⟩ ?_
      rintro _ e_62 _ ⟨y_, v_a, v_c, v_, hk, hV, he_63, he_64, he_65, rfl, rfl⟩
      have hV1 := hV.1
      refine jC <| jC <| jF <| jA (jD (v := nv y_) he_65) <| jA (jl rfl rfl) <| jE <| jB ?_
      by_cases h_66 : ((y_ : Nat) : Int) < 30
      · refine jW (cB (dT h_66)) <| jT <| jB <| jC <| jf <| jF <| jA (jD (v := .slice v_a v_.length v_c) he_64) ?_
        refine jH rfl (jI [] Tryz.call156 rfl (D_long (5 : UInt8) 60 (by omega) (by omega)) rfl (fun _ _ => trivial)) ?_
        rintro _ _ ⟨_, ⟨u_67, f_68, rfl, rfl⟩, rfl⟩
        refine jA (kW (ps := [(0, str [97]), (1, str u_67)]) (cs := [str [97], str u_67]) rfl (by kernel_rfl)) ?_
        refine jH rfl (kH (ps := [(0, .agg #[str [97], str u_67])]) (cur := #[str [97], str u_67]) kf kh kw rfl (by kernel_rfl) (by decide) (by decide)) ?_
        rintro _ _ ⟨a_70, rfl, rfl⟩
        refine jH rfl (kU 3 (q := 1) (news := ([([97], u_67)] : List Cell).flatMap encC) (n' := (v_ ++ ([([97], u_67)] : List Cell)).length) (cs' := (v_ ++ ([([97], u_67)] : List Cell)).flatMap encC) rfl kf kf ky rfl (by' := 32) rfl rfl rfl rfl rfl (fun w hw => Src.sees (hw.see (i := 0) rfl) (oneC _)) (by (try simp only [LE]); omega) (by (try simp only [LE]); omega) (by simp only [List.length_append, List.length_take, List.length_drop, List.length_cons, List.length_nil] <;> first | rfl | omega) (by simp only [List.flatMap_append])) ?_
        rintro _ _ ⟨a_71, c_72, rfl, rfl⟩
        refine jA (jG (v := .slice a_71 ((v_ ++ ([([97], u_67)] : List Cell)).length) c_72) rfl) <| jE <| jm <| jB <| jF <| jA (jD (v := nv y_) he_65) <| jA (jc (c := ((y_ + 1 : Nat) : Int)) rfl rfl (wr (by omega))) <| jA (jG (v := iv ((y_ + 1 : Nat) : Int)) rfl) <| jE <| kB [1, 1, 1] (A := [cb qb qa qc ql qp_56 qs_57, Res.row (.slice a_53 1 1) 48 2 1 (([(u_44, u_50)] : List Cell).flatMap encC), rC a_71 c_72 (v_ ++ ([([97], u_67)] : List Cell))]) rfl ?_
        refine jq (31 - (y_ + 1)) (by omega) ⟨(y_ + 1), a_71, c_72, (v_ ++ ([([97], u_67)] : List Cell)), (by omega), (okC'.snoc hV (by first | decide | (simp only [List.length_cons, List.length_nil]; omega)) (by omega)), he_63, rfl, rfl, rfl, rfl⟩
      refine jR (cB (dF h_66)) <| jx <| jb <| jb <| jy <| jB <| jC <| jF <| jA (jD (v := .slice v_a v_.length v_c) he_64) <| jA (jG (v := .slice v_a v_.length v_c) rfl) ?_
      refine jE <| jB <| jN <| kM (pick_perm [0, 1] (A := [cb qb qa qc ql qp_56 qs_57, rC v_a v_c v_]) (F := [Res.row (.slice a_53 1 1) 48 2 1 (([(u_44, u_50)] : List Cell).flatMap encC)]) rfl).symm <| jV (.inl rfl) rfl (jJ (v := .slice v_a v_.length v_c) rfl) (tS 2 _) ?_
      exact ⟨qp_56, qs_57, v_a, v_c, v_, (by omega), (by first | exact hV.mono (by omega) | exact okC'.mono (okC'.snoc hO (by omega) (by omega)) (by omega) | exact hO.mono (by omega)), rfl, rfl⟩
    refine jR (cB h_61) <| jT <| jB <| jC <| jF <| jA (jD (v := .slice a_54 ((o_ ++ ([(u_44, u_50)] : List Cell)).length) c_55) rfl) <| jA (jG (v := .slice a_54 ((o_ ++ ([(u_44, u_50)] : List Cell)).length) c_55) rfl) <| jE <| jB <| jN ?_
    refine kM (pick_perm [0, 1] (A := [cb qb qa qc ql qp_56 qs_57, rC a_54 c_55 (o_ ++ ([(u_44, u_50)] : List Cell))]) (F := [Res.row (.slice a_53 1 1) 48 2 1 (([(u_44, u_50)] : List Cell).flatMap encC)]) rfl).symm <| jV (.inl rfl) rfl (jJ (v := .slice a_54 ((o_ ++ ([(u_44, u_50)] : List Cell)).length) c_55) rfl) (tS 2 _) ?_
    exact ⟨qp_56, qs_57, a_54, c_55, (o_ ++ ([(u_44, u_50)] : List Cell)), (by omega), (by first | exact hV.mono (by omega) | exact okC'.mono (okC'.snoc hO (by omega) (by omega)) (by omega) | exact hO.mono (by omega)), rfl, rfl⟩
  refine jR (cB h_40) <| jT <| jB <| jC <| jC <| jF <| jA (jD (v := .pointer (some ⟨qb, 0, none⟩)) he_3) ?_
  refine jH rfl (jI [0] Tryz.call99 rfl (D_once qb qa qc ql qp_35 qs_36 (by omega) (by omega) 40 (by omega)) rfl (fun w hw => ⟨hw.seeOut_ hs_qa (hpre.2), hw.apart hs_qa (hpre.2) (by simp)⟩)) ?_
  rintro _ _ ⟨_, ⟨qp_73, qs_74, b_76, fq_75, rfl, rfl⟩, rfl⟩
  refine jE <| jB ?_
  rcases Bool.eq_false_or_eq_true (b_76) with h_78 | h_78
  · refine jW (cB h_78) <| jC <| jF <| jA (jG (v := iv 0) rfl) <| jE <| jB <| jf <| kD (fun k_ e_ L_ => ∃ y_ : Nat, ∃ v_a : Option Addr, ∃ v_c : Nat, ∃ v_ : List Cell, (y_ ≤ 30) ∧ (okC' (5 + y_) 5000 v_) ∧ e_ 2 = .slice none 0 0 ∧ e_ 3 = .slice v_a v_.length v_c ∧ e_ 5 = nv y_ ∧ L_ = [cb qb qa qc ql qp_73 qs_74, rC v_a v_c v_] ∧ k_ = 31 - y_) _ ⟨0, o_a, o_c, o_, (by omega), (by first | exact okC'.mono (okC'.snoc hO (by omega) (by omega)) (by omega) | exact hO.mono (by omega)), he_4, he_5, rfl, rfl, rfl⟩ ?_
    rintro _ e_79 _ ⟨y_, v_a, v_c, v_, hk, hV, he_80, he_81, he_82, rfl, rfl⟩
    have hV1 := hV.1
    refine jC <| jC <| jF <| jA (jD (v := nv y_) he_82) <| jA (jl rfl rfl) <| jE <| jB ?_
    by_cases h_83 : ((y_ : Nat) : Int) < 30
    · refine jW (cB (dT h_83)) <| jT <| jB <| jC <| jf <| jF <| jA (jD (v := .slice v_a v_.length v_c) he_81) ?_
      refine jH rfl (jI [] Tryz.call156 rfl (D_long (5 : UInt8) 60 (by omega) (by omega)) rfl (fun _ _ => trivial)) ?_
      rintro _ _ ⟨_, ⟨u_84, f_85, rfl, rfl⟩, rfl⟩
      refine jA (kW (ps := [(0, str [97]), (1, str u_84)]) (cs := [str [97], str u_84]) rfl (by kernel_rfl)) ?_
      refine jH rfl (kH (ps := [(0, .agg #[str [97], str u_84])]) (cur := #[str [97], str u_84]) kf kh kw rfl (by kernel_rfl) (by decide) (by decide)) ?_
      rintro _ _ ⟨a_87, rfl, rfl⟩
      refine jH rfl (kU 2 (q := 1) (news := ([([97], u_84)] : List Cell).flatMap encC) (n' := (v_ ++ ([([97], u_84)] : List Cell)).length) (cs' := (v_ ++ ([([97], u_84)] : List Cell)).flatMap encC) rfl kf kf ky rfl (by' := 32) rfl rfl rfl rfl rfl (fun w hw => Src.sees (hw.see (i := 0) rfl) (oneC _)) (by (try simp only [LE]); omega) (by (try simp only [LE]); omega) (by simp only [List.length_append, List.length_take, List.length_drop, List.length_cons, List.length_nil] <;> first | rfl | omega) (by simp only [List.flatMap_append])) ?_
      rintro _ _ ⟨a_88, c_89, rfl, rfl⟩
      refine jA (jG (v := .slice a_88 ((v_ ++ ([([97], u_84)] : List Cell)).length) c_89) rfl) <| jE <| jm <| jB <| jF <| jA (jD (v := nv y_) he_82) <| jA (jc (c := ((y_ + 1 : Nat) : Int)) rfl rfl (wr (by omega))) <| jA (jG (v := iv ((y_ + 1 : Nat) : Int)) rfl) <| jE <| kB [1, 1] (A := [cb qb qa qc ql qp_73 qs_74, rC a_88 c_89 (v_ ++ ([([97], u_84)] : List Cell))]) rfl ?_
      refine jq (31 - (y_ + 1)) (by omega) ⟨(y_ + 1), a_88, c_89, (v_ ++ ([([97], u_84)] : List Cell)), (by omega), (okC'.snoc hV (by first | decide | (simp only [List.length_cons, List.length_nil]; omega)) (by omega)), he_80, rfl, rfl, rfl, rfl⟩
    refine jR (cB (dF h_83)) <| jx <| jb <| jb <| jy <| jB <| jC <| jF <| jA (jD (v := .slice v_a v_.length v_c) he_81) <| jA (jG (v := .slice v_a v_.length v_c) rfl) ?_
    refine jE <| jB <| jN <| jV (.inl rfl) rfl (jJ (v := .slice v_a v_.length v_c) rfl) (List.Sublist.refl _) ?_
    exact ⟨qp_73, qs_74, v_a, v_c, v_, (by omega), (by first | exact hV.mono (by omega) | exact okC'.mono (okC'.snoc hO (by omega) (by omega)) (by omega) | exact hO.mono (by omega)), rfl, rfl⟩
  refine jR (cB h_78) <| jT <| jB <| jC <| jF <| jA (jD (v := .slice o_a o_.length o_c) he_5) <| jA (jG (v := .slice o_a o_.length o_c) rfl) <| jE <| jB <| jN ?_
  refine jV (.inl rfl) rfl (jJ (v := .slice o_a o_.length o_c) rfl) (List.Sublist.refl _) ?_
  exact ⟨qp_73, qs_74, o_a, o_c, o_, (by omega), (by first | exact hV.mono (by omega) | exact okC'.mono (okC'.snoc hO (by omega) (by omega)) (by omega) | exact hO.mono (by omega)), rfl, rfl⟩

theorem D_jour22 (qb : Nat) (qa : Option Addr) (qc : Nat) (ql : Str) (qp : Nat) (qs : Int) (hql : ql.length ≤ 1048576) (hqp : qp ≤ ql.length)  :
    Ct Tryz.prog 155 [.pointer (some ⟨qb, 0, none⟩)] [cb qb qa qc ql qp qs] (fun w => seesC w qa qc ql [cb qb qa qc ql qp qs]) (fun v A' => ∃ qp' qs' r0t r0j, qp' ≤ ql.length ∧ (r0t.length ≤ 100000) ∧ v = .agg #[str r0t, .int .i64 r0j] ∧ A' = [cb qb qa qc ql qp' qs']) := by
  refine Ct.intro Tryz.func155 rfl Tryz.ntmps155 (lb rfl) fun w0 hpre => ?_
  have hs_qa : Sees w0 _ _ _ _ := hpre.1
  refine jC <| jF ?_
  refine jH rfl (jo (z := .agg #[str [], iv 0]) (cs := [str [], iv 0]) gN rfl) ?_
  rintro _ _ ⟨b_1, rfl, rfl⟩
  refine jE <| jB <| jC <| jF <| jA (kW (ps := []) (cs := [str [], iv 0]) rfl (by kernel_rfl)) ?_
  refine jH rfl (jo (z := .agg #[str [], iv 0]) (cs := [str [], iv 0]) gN rfl) ?_
  rintro _ _ ⟨b_2, rfl, rfl⟩
  refine jH rfl (ja 0 (vs := [str [], iv 0]) (cs' := [str [], iv 0]) rfl rfl rfl rfl kl rfl rfl (lb rfl) rfl) ?_
  rintro _ _ rfl
  refine jE <| jB <| jC <| jF <| jA (jD (v := .pointer (some ⟨qb, 0, none⟩)) rfl) ?_
  refine jH rfl (jI [2] Tryz.call73 rfl (D_below qb qa qc ql qp qs (by omega) (by omega) 2 (by omega)) rfl (fun w hw => ⟨hw.seeOut_ hs_qa (hpre.2), hw.apart hs_qa (hpre.2) (by simp)⟩)) ?_
  rintro _ _ ⟨_, ⟨qp_3, qs_4, n_6, fq_5, f_7, rfl, rfl⟩, rfl⟩
  refine jA (jc (c := ((1 + n_6 : Nat) : Int)) rfl rfl (wr (by omega))) <| jA (jG (v := iv ((1 + n_6 : Nat) : Int)) rfl) <| jE <| jB <| jC <| jC <| jF <| jA (jG (v := iv 0) rfl) <| jE <| jB ?_
  refine jf <| kD (fun k_ e_ L_ => ∃ i_ : Nat, ∃ p_q : Nat, ∃ s_q : Int, ∃ z_ : Int, ∃ t_ : Str, ∃ j_ : Int, (p_q ≤ ql.length) ∧ (i_ ≤ 5) ∧ (1 ≤ z_ ∧ z_ ≤ 10 + ((i_ : Nat) : Int)) ∧ (t_.length ≤ 100000) ∧ e_ 0 = .pointer (some ⟨qb, 0, none⟩) ∧ e_ 2 = .pointer (some ⟨b_1, 0, none⟩) ∧ e_ 3 = .pointer (some ⟨b_2, 0, none⟩) ∧ e_ 4 = iv z_ ∧ e_ 5 = nv i_ ∧ L_ = [cb qb qa qc ql p_q s_q, bk b_2 29 [str t_, iv j_], bk b_1 29 [str [], iv 0]] ∧ k_ = 6 - i_) _ ⟨0, qp_3, qs_4, ((1 + n_6 : Nat) : Int), [], 0, (by omega), (by omega), (by omega), (by simp), rfl, rfl, rfl, rfl, rfl, rfl, rfl⟩ ?_
  rintro _ e_9 _ ⟨i_, p_q, s_q, z_, t_, j_, hpq_, hi, hz, ht, he_10, he_11, he_12, he_13, he_14, rfl, rfl⟩
  refine jC <| jC <| jF <| jA (jD (v := nv i_) he_14) <| jA (jD (v := .pointer (some ⟨qb, 0, none⟩)) he_10) ?_
  refine jH rfl (jI [0] Tryz.call73 rfl (D_below qb qa qc ql p_q s_q (by omega) (by omega) 5 (by omega)) rfl (fun w hw => ⟨hw.seeOut_ hs_qa (hpre.2), hw.apart hs_qa (hpre.2) (by simp)⟩)) ?_
  rintro _ _ ⟨_, ⟨qp_15, qs_16, n_18, fq_17, f_19, rfl, rfl⟩, rfl⟩
  refine jA (jl rfl rfl) <| jE <| jB ?_
  by_cases h_21 : ((i_ : Nat) : Int) < ((n_18 : Nat) : Int)
  · refine jW (cB (dT h_21)) <| jT <| jB <| jC <| jf <| jC <| kJ [bk b_2 29 [str t_, iv j_]] 9 mixed (by simp) <| jw 0 rfl (jO 0 (vs := [str t_, iv j_]) rfl he_12 kp kl rfl rfl) <| jL 1 rfl (jD (v := iv z_) he_13) <| jL 2 rfl (jD (v := .pointer (some ⟨qb, 0, none⟩)) he_10) ?_
    refine jj (i := 3) ?_
    refine jz rfl rfl (jI [0] Tryz.call181 rfl (D_list21 qb qa qc ql qp_15 qs_16 (by omega) (by omega)) rfl (fun w hw => ⟨hw.seeOut_ hs_qa (hpre.2), hw.apart hs_qa (hpre.2) (by simp)⟩)) ?_
    rintro _ _ ⟨_, ⟨qp_28, qs_29, l_31a, l_31c, l_31, fq_30, f_32, rfl, rfl⟩, rfl⟩
    have hO1_ := f_32.1
    refine ⟨(by simp), ?_⟩
    refine jj (i := 4) ?_
    refine jz rfl rfl (jI [] Tryz.call41 rfl (Y_sRec z_ l_31a l_31c l_31 (f_32.okC (by decide) (by decide))) rfl (fun w hw => hw.see (i := 1) rfl)) ?_
    rintro _ _ ⟨_, ⟨rfl, rfl⟩, rfl⟩
    have hrl_35 := recText_len z_ l_31
    refine ⟨(by simp), ?_⟩
    refine jj (i := 5) ?_
    refine jz rfl rfl (jI [] Tryz.call180 rfl (Y_sAdd t_ j_ (recText z_ l_31) (by omega) (by omega)) rfl (fun _ _ => trivial)) ?_
    rintro _ _ ⟨_, ⟨u_40, b_41, e_42, rfl, rfl⟩, rfl⟩
    have hl_43 : u_40.length ≤ 100000 := addT_len e_42 (by omega) (by omega)
    refine ⟨(by simp), ?_⟩
    refine jL 6 rfl (jD (v := .tuple #[.agg #[str u_40, iv j_], .bool b_41]) rfl) <| jL 7 rfl (je (v := .agg #[str u_40, iv j_]) rfl rfl) <| jL 8 rfl (je (v := .bool b_41) rfl rfl) <| jj (i := 9) ?_
    refine JX.ls rfl (ja 2 (vs := [str u_40, iv j_]) (cs' := [str u_40, iv j_]) rfl he_12 rfl rfl kl rfl rfl (lb rfl) rfl) ?_
    rintro _ _ rfl
    refine jB <| jC <| jF <| jA (jD (v := iv z_) he_13) <| jA (jc (c := z_ + 1) rfl rfl (wr (by omega))) <| jA (jG (v := iv (z_ + 1)) rfl) <| jE <| jB <| jC <| jC ?_
    refine jF <| jA (jD (v := .pointer (some ⟨qb, 0, none⟩)) he_10) ?_
    refine jH rfl (jI [0] Tryz.call99 rfl (D_once qb qa qc ql qp_28 qs_29 (by omega) (by omega) 4 (by omega)) rfl (fun w hw => ⟨hw.seeOut_ hs_qa (hpre.2), hw.apart hs_qa (hpre.2) (by simp)⟩)) ?_
    rintro _ _ ⟨_, ⟨qp_44, qs_45, b_47, fq_46, rfl, rfl⟩, rfl⟩
    refine jE <| jB ?_
    rcases Bool.eq_false_or_eq_true (b_47) with h_49 | h_49
    · refine jW (cB h_49) <| jF <| jK (jO 2 (vs := [str u_40, iv j_]) rfl he_12 kp kl rfl rfl) ?_
      refine jH rfl (jI [] Tryz.call182 rfl (Y_sFlush u_40 j_ (by omega)) rfl (fun _ _ => trivial)) ?_
      rintro _ _ ⟨_, ⟨n_50, e_51, rfl, rfl⟩, rfl⟩
      refine jH rfl (ja 2 (vs := [str u_40, iv n_50]) (cs' := [str u_40, iv n_50]) rfl he_12 rfl rfl kl rfl rfl (lb rfl) rfl) ?_
      rintro _ _ rfl
      refine jE <| jB <| jC <| jF <| jA (jD (v := .pointer (some ⟨qb, 0, none⟩)) he_10) ?_
      refine jH rfl (jI [0] Tryz.call99 rfl (D_once qb qa qc ql qp_44 qs_45 (by omega) (by omega) 12 (by omega)) rfl (fun w hw => ⟨hw.seeOut_ hs_qa (hpre.2), hw.apart hs_qa (hpre.2) (by simp)⟩)) ?_
      rintro _ _ ⟨_, ⟨qp_52, qs_53, b_55, fq_54, rfl, rfl⟩, rfl⟩
      refine jE <| jB ?_
      rcases Bool.eq_false_or_eq_true (b_55) with h_57 | h_57
      · refine jW (cB h_57) <| jF <| jA (jD (v := .pointer (some ⟨qb, 0, none⟩)) he_10) ?_
        refine jH rfl (jI [0] Tryz.call73 rfl (D_below qb qa qc ql qp_52 qs_53 (by omega) (by omega) 4 (by omega)) rfl (fun w hw => ⟨hw.seeOut_ hs_qa (hpre.2), hw.apart hs_qa (hpre.2) (by simp)⟩)) ?_
        rintro _ _ ⟨_, ⟨qp_58, qs_59, n_61, fq_60, f_62, rfl, rfl⟩, rfl⟩
        refine jA (jc (c := ((1 + n_61 : Nat) : Int)) rfl rfl (wr (by omega))) <| jA (jG (v := iv ((1 + n_61 : Nat) : Int)) rfl) <| jE <| jm <| jB <| jF <| jA (jD (v := nv i_) he_14) <| jA (jc (c := ((i_ + 1 : Nat) : Int)) rfl rfl (wr (by omega))) <| jA (jG (v := iv ((i_ + 1 : Nat) : Int)) rfl) <| jE ?_
        refine kB [0, 1, 1] (A := [cb qb qa qc ql qp_58 qs_59, bk b_2 29 [str u_40, iv n_50], bk b_1 29 [str [], iv 0]]) rfl ?_
        refine jq (6 - (i_ + 1)) (by omega) ⟨(i_ + 1), qp_58, qs_59, ((1 + n_61 : Nat) : Int), u_40, n_50, (by omega), (by omega), (by omega), (by omega), he_10, he_11, he_12, rfl, rfl, rfl, rfl⟩
      refine jR (cB h_57) <| jT <| jm <| jB <| jF <| jA (jD (v := nv i_) he_14) <| jA (jc (c := ((i_ + 1 : Nat) : Int)) rfl rfl (wr (by omega))) <| jA (jG (v := iv ((i_ + 1 : Nat) : Int)) rfl) <| jE <| kB [0, 1, 1] (A := [cb qb qa qc ql qp_52 qs_53, bk b_2 29 [str u_40, iv n_50], bk b_1 29 [str [], iv 0]]) rfl ?_
      refine jq (6 - (i_ + 1)) (by omega) ⟨(i_ + 1), qp_52, qs_53, (z_ + 1), u_40, n_50, (by omega), (by omega), (by omega), (by omega), he_10, he_11, he_12, rfl, rfl, rfl, rfl⟩
    refine jR (cB h_49) <| jT <| jB <| jC <| jF <| jA (jD (v := .pointer (some ⟨qb, 0, none⟩)) he_10) ?_
    refine jH rfl (jI [0] Tryz.call99 rfl (D_once qb qa qc ql qp_44 qs_45 (by omega) (by omega) 12 (by omega)) rfl (fun w hw => ⟨hw.seeOut_ hs_qa (hpre.2), hw.apart hs_qa (hpre.2) (by simp)⟩)) ?_
    rintro _ _ ⟨_, ⟨qp_64, qs_65, b_67, fq_66, rfl, rfl⟩, rfl⟩
    refine jE <| jB ?_
    rcases Bool.eq_false_or_eq_true (b_67) with h_69 | h_69
    · refine jW (cB h_69) <| jF <| jA (jD (v := .pointer (some ⟨qb, 0, none⟩)) he_10) ?_
      refine jH rfl (jI [0] Tryz.call73 rfl (D_below qb qa qc ql qp_64 qs_65 (by omega) (by omega) 4 (by omega)) rfl (fun w hw => ⟨hw.seeOut_ hs_qa (hpre.2), hw.apart hs_qa (hpre.2) (by simp)⟩)) ?_
      rintro _ _ ⟨_, ⟨qp_70, qs_71, n_73, fq_72, f_74, rfl, rfl⟩, rfl⟩
      refine jA (jc (c := ((1 + n_73 : Nat) : Int)) rfl rfl (wr (by omega))) <| jA (jG (v := iv ((1 + n_73 : Nat) : Int)) rfl) <| jE <| jm <| jB <| jF <| jA (jD (v := nv i_) he_14) <| jA (jc (c := ((i_ + 1 : Nat) : Int)) rfl rfl (wr (by omega))) <| jA (jG (v := iv ((i_ + 1 : Nat) : Int)) rfl) <| jE ?_
      refine kB [0, 1, 1] (A := [cb qb qa qc ql qp_70 qs_71, bk b_2 29 [str u_40, iv j_], bk b_1 29 [str [], iv 0]]) rfl ?_
      refine jq (6 - (i_ + 1)) (by omega) ⟨(i_ + 1), qp_70, qs_71, ((1 + n_73 : Nat) : Int), u_40, j_, (by omega), (by omega), (by omega), (by omega), he_10, he_11, he_12, rfl, rfl, rfl, rfl⟩
    refine jR (cB h_69) <| jT <| jm <| jB <| jF <| jA (jD (v := nv i_) he_14) <| jA (jc (c := ((i_ + 1 : Nat) : Int)) rfl rfl (wr (by omega))) <| jA (jG (v := iv ((i_ + 1 : Nat) : Int)) rfl) <| jE <| kB [0, 1, 1] (A := [cb qb qa qc ql qp_64 qs_65, bk b_2 29 [str u_40, iv j_], bk b_1 29 [str [], iv 0]]) rfl ?_
    refine jq (6 - (i_ + 1)) (by omega) ⟨(i_ + 1), qp_64, qs_65, (z_ + 1), u_40, j_, (by omega), (by omega), (by omega), (by omega), he_10, he_11, he_12, rfl, rfl, rfl, rfl⟩
  refine jR (cB (dF h_21)) <| jx <| jb <| jb <| jy <| jB <| jC <| jC <| jF <| jA (jD (v := .pointer (some ⟨qb, 0, none⟩)) he_10) ?_
  refine jH rfl (jI [0] Tryz.call99 rfl (D_once qb qa qc ql qp_15 qs_16 (by omega) (by omega) 4 (by omega)) rfl (fun w hw => ⟨hw.seeOut_ hs_qa (hpre.2), hw.apart hs_qa (hpre.2) (by simp)⟩)) ?_
  rintro _ _ ⟨_, ⟨qp_76, qs_77, b_79, fq_78, rfl, rfl⟩, rfl⟩
  refine jE <| jB ?_
  rcases Bool.eq_false_or_eq_true (b_79) with h_81 | h_81
  · refine jW (cB h_81) <| kJ [bk b_2 29 [str t_, iv j_]] 8 mixed (by simp) <| jw 0 rfl (jO 0 (vs := [str t_, iv j_]) rfl he_12 kp kl rfl rfl) <| jL 1 rfl (jD (v := .pointer (some ⟨qb, 0, none⟩)) he_10) <| jj (i := 2) ?_
    refine jz rfl rfl (kH (ps := [(0, str [51, 32, 54, 49, 61]), (1, str [120, 10]), (2, str [10])]) (cur := #[str [51, 32, 54, 49, 61], str [120, 10], str [10]]) ku kt Tryz.zeroValue9 rfl (by kernel_rfl) (by decide) (by decide)) ?_
    rintro _ _ ⟨a_83, rfl, rfl⟩
    refine ⟨(by simp), ?_⟩
    refine jj (i := 3) ?_
    refine jz rfl rfl (jI [1, 0] Tryz.call158 rfl (D_pick qb qa qc ql qp_76 qs_77 a_83 3 ([[51, 32, 54, 49, 61], [120, 10], [10]] : List Str) (by omega) (by omega) (by simp) (by simp)) rfl (fun w hw => ⟨hw.seeOut_ hs_qa (hpre.2), hw.apart hs_qa (hpre.2) (by simp)⟩)) ?_
    rintro _ _ ⟨_, ⟨qp_90, qs_91, u_93, fq_92, f_94, rfl, rfl⟩, rfl⟩
    have hlu_93 : u_93.length ≤ 64 := by have hx_ := f_94; simp only [List.mem_cons, List.not_mem_nil, or_false] at hx_; rcases hx_ with hx_ | hx_ | hx_ <;> first | (rw [hx_]; decide) | (rw [hx_]; omega)
    refine ⟨(by simp), ?_⟩
    refine jj (i := 4) ?_
    refine jz rfl rfl (jI [] Tryz.call180 rfl (Y_sAdd t_ j_ u_93 (by omega) (by omega)) rfl (fun _ _ => trivial)) ?_
    rintro _ _ ⟨_, ⟨u_100, b_101, e_102, rfl, rfl⟩, rfl⟩
    have hl_103 : u_100.length ≤ 100000 := addT_len e_102 (by omega) (by omega)
    refine ⟨(by simp), ?_⟩
    refine jL 5 rfl (jD (v := .tuple #[.agg #[str u_100, iv j_], .bool b_101]) rfl) <| jL 6 rfl (je (v := .agg #[str u_100, iv j_]) rfl rfl) <| jL 7 rfl (je (v := .bool b_101) rfl rfl) <| jj (i := 8) ?_
    refine JX.ls rfl (ja 1 (vs := [str u_100, iv j_]) (cs' := [str u_100, iv j_]) rfl he_12 rfl rfl kl rfl rfl (lb rfl) rfl) ?_
    rintro _ _ rfl
    refine jB <| jC <| jF <| jK (jO 1 (vs := [str u_100, iv j_]) rfl he_12 kp kl rfl rfl) ?_
    refine jH rfl (ja 2 (vs := [str u_100, iv j_]) (cs' := [str u_100, iv j_]) rfl he_11 rfl rfl kl rfl rfl (lb rfl) rfl) ?_
    rintro _ _ rfl
    refine jE <| jB <| jN <| jV (.inl rfl) rfl (kA (jO 2 (vs := [str u_100, iv j_]) rfl he_11 kp kl rfl rfl) ⟨_, he_11⟩) (tS 1 _) ?_
    exact ⟨qp_90, qs_91, u_100, j_, (by omega), (by (try simp only [List.length_nil]); omega), rfl, rfl⟩
  refine jR (cB h_81) <| jT <| jB <| jC <| jF <| jK (jO 1 (vs := [str t_, iv j_]) rfl he_12 kp kl rfl rfl) ?_
  refine jH rfl (ja 2 (vs := [str t_, iv j_]) (cs' := [str t_, iv j_]) rfl he_11 rfl rfl kl rfl rfl (lb rfl) rfl) ?_
  rintro _ _ rfl
  refine jE <| jB <| jN <| jV (.inl rfl) rfl (kA (jO 2 (vs := [str t_, iv j_]) rfl he_11 kp kl rfl rfl) ⟨_, he_11⟩) (tS 1 _) ?_
  exact ⟨qp_76, qs_77, t_, j_, (by omega), (by (try simp only [List.length_nil]); omega), rfl, rfl⟩

theorem D_jany22 (qb : Nat) (qa : Option Addr) (qc : Nat) (ql : Str) (qp : Nat) (qs : Int) (hql : ql.length ≤ 1048576) (hqp : qp ≤ ql.length)  :
    Ct Tryz.prog 131 [.pointer (some ⟨qb, 0, none⟩)] [cb qb qa qc ql qp qs] (fun w => seesC w qa qc ql [cb qb qa qc ql qp qs]) (fun v A' => ∃ qp' qs' r0t r0j, qp' ≤ ql.length ∧ (r0t.length ≤ 100000) ∧ v = .agg #[str r0t, .int .i64 r0j] ∧ A' = [cb qb qa qc ql qp' qs']) := by
  refine Ct.intro Tryz.func131 rfl Tryz.ntmps131 (lb rfl) fun w0 hpre => ?_
  have hs_qa : Sees w0 _ _ _ _ := hpre.1
  refine jC <| jF ?_
  refine jH rfl (jo (z := .agg #[str [], iv 0]) (cs := [str [], iv 0]) gN rfl) ?_
  rintro _ _ ⟨b_1, rfl, rfl⟩
  refine jE <| jB <| jC <| jF <| jA (jD (v := .pointer (some ⟨qb, 0, none⟩)) rfl) ?_
  refine jH rfl (jI [1] Tryz.call155 rfl (D_jour22 qb qa qc ql qp qs (by omega) (by omega)) rfl (fun w hw => ⟨hw.seeOut_ hs_qa (hpre.2), hw.apart hs_qa (hpre.2) (by simp)⟩)) ?_
  rintro _ _ ⟨_, ⟨qp_2, qs_3, J_5t, J_5j, fq_4, f_6, rfl, rfl⟩, rfl⟩
  refine jH rfl (jo (z := .agg #[str [], iv 0]) (cs := [str [], iv 0]) gN rfl) ?_
  rintro _ _ ⟨b_8, rfl, rfl⟩
  refine jH rfl (ja 0 (vs := [str J_5t, iv J_5j]) (cs' := [str J_5t, iv J_5j]) rfl rfl rfl rfl kl rfl rfl (lb rfl) rfl) ?_
  rintro _ _ rfl
  refine jE <| jB <| jC <| jC <| jF <| jA (jD (v := .pointer (some ⟨qb, 0, none⟩)) rfl) ?_
  refine jH rfl (jI [1] Tryz.call73 rfl (D_below qb qa qc ql qp_2 qs_3 (by omega) (by omega) 12 (by omega)) rfl (fun w hw => ⟨hw.seeOut_ hs_qa (hpre.2), hw.apart hs_qa (hpre.2) (by simp)⟩)) ?_
  rintro _ _ ⟨_, ⟨qp_9, qs_10, n_12, fq_11, f_13, rfl, rfl⟩, rfl⟩
  refine jE <| jB <| jf <| jC <| jF <| jA (kO rfl rfl) <| jA (jG (v := .bool (decide (((n_12 : Nat) : Int) = 0))) rfl) <| jE <| jB ?_
  by_cases h_15 : ((n_12 : Nat) : Int) = 0
  · refine jW (cB (dT h_15)) <| jF <| jA (jD (v := .pointer (some ⟨qb, 0, none⟩)) rfl) ?_
    refine jH rfl (kH (ps := [(0, iv (-1)), (1, iv 0), (2, iv 5), (3, iv 100000)]) (cur := #[iv (-1), iv 0, iv 5, iv 100000]) Tryz.underlying41 gA Tryz.zeroValue3 rfl (by kernel_rfl) (by decide) (by decide)) ?_
    rintro _ _ ⟨a_16, rfl, rfl⟩
    refine jH rfl (jI [1, 0] Tryz.call98 rfl (D_pickInt qb qa qc ql qp_9 qs_10 a_16 4 ([-1, 0, 5, 100000] : List Int) (by omega) (by omega) (by simp) (by simp)) rfl (fun w hw => ⟨hw.seeOut_ hs_qa (hpre.2), hw.apart hs_qa (hpre.2) (by simp)⟩)) ?_
    rintro _ _ ⟨_, ⟨qp_17, qs_18, n_20, fq_19, f_21, rfl, rfl⟩, rfl⟩
    have hbn_20 : -9223372036854775808 ≤ n_20 ∧ n_20 ≤ 9223372036854775807 := by have hx_ := f_21; simp only [List.mem_cons, List.not_mem_nil, or_false] at hx_; omega
    refine jA (jQ fo29_1 rfl) ?_
    refine jH rfl (ja 1 (vs := [iv n_20]) (cs' := [str J_5t, iv n_20]) rfl rfl rfl rfl gA rfl rfl (lb rfl) rfl) ?_
    rintro _ _ rfl
    refine jE <| jm <| jB <| jC <| jF <| jK (jO 1 (vs := [str J_5t, iv n_20]) rfl rfl kp kl rfl rfl) ?_
    refine jH rfl (ja 2 (vs := [str J_5t, iv n_20]) (cs' := [str J_5t, iv n_20]) rfl rfl rfl rfl kl rfl rfl (lb rfl) rfl) ?_
    rintro _ _ rfl
    refine jE <| jB <| jN <| jV (.inl rfl) rfl (kA (jO 2 (vs := [str J_5t, iv n_20]) rfl rfl kp kl rfl rfl) ⟨_, rfl⟩) (tS 1 _) ?_
    exact ⟨qp_17, qs_18, J_5t, n_20, (by omega), (by (try simp only [List.length_nil]); omega), rfl, rfl⟩
  refine jR (cB (dF h_15)) <| jC <| jF <| jA (kO rfl rfl) <| jA (jG (v := .bool (decide (((n_12 : Nat) : Int) = 1))) rfl) <| jE <| jB ?_
  by_cases h_23 : ((n_12 : Nat) : Int) = 1
  · refine jW (cB (dT h_23)) <| jF <| jA (jD (v := .pointer (some ⟨qb, 0, none⟩)) rfl) ?_
    refine jH rfl (jI [0] Tryz.call73 rfl (D_below qb qa qc ql qp_9 qs_10 (by omega) (by omega) 2 (by omega)) rfl (fun w hw => ⟨hw.seeOut_ hs_qa (hpre.2), hw.apart hs_qa (hpre.2) (by simp)⟩)) ?_
    rintro _ _ ⟨_, ⟨qp_24, qs_25, n_27, fq_26, f_28, rfl, rfl⟩, rfl⟩
    refine jA (jc (c := ((20000 + n_27 : Nat) : Int)) rfl rfl (wr (by omega))) ?_
    refine jH rfl (jI [] Tryz.call156 rfl (D_long (10 : UInt8) ((20000 + n_27 : Nat) : Int) (by omega) (by omega)) rfl (fun _ _ => trivial)) ?_
    rintro _ _ ⟨_, ⟨u_30, f_31, rfl, rfl⟩, rfl⟩
    refine jA (jQ fo29_0 rfl) ?_
    refine jH rfl (ja 1 (vs := [str u_30]) (cs' := [str u_30, iv J_5j]) rfl rfl rfl rfl kt rfl rfl (lb rfl) rfl) ?_
    rintro _ _ rfl
    refine jE <| jm <| jB <| jC <| jF <| jK (jO 1 (vs := [str u_30, iv J_5j]) rfl rfl kp kl rfl rfl) ?_
    refine jH rfl (ja 2 (vs := [str u_30, iv J_5j]) (cs' := [str u_30, iv J_5j]) rfl rfl rfl rfl kl rfl rfl (lb rfl) rfl) ?_
    rintro _ _ rfl
    refine jE <| jB <| jN <| jV (.inl rfl) rfl (kA (jO 2 (vs := [str u_30, iv J_5j]) rfl rfl kp kl rfl rfl) ⟨_, rfl⟩) (tS 1 _) ?_
    exact ⟨qp_24, qs_25, u_30, J_5j, (by omega), (by (try simp only [List.length_nil]); omega), rfl, rfl⟩
  refine jR (cB (dF h_23)) <| jT <| jm <| jB <| jC <| jF <| jK (jO 1 (vs := [str J_5t, iv J_5j]) rfl rfl kp kl rfl rfl) ?_
  refine jH rfl (ja 2 (vs := [str J_5t, iv J_5j]) (cs' := [str J_5t, iv J_5j]) rfl rfl rfl rfl kl rfl rfl (lb rfl) rfl) ?_
  rintro _ _ rfl
  refine jE <| jB <| jN <| jV (.inl rfl) rfl (kA (jO 2 (vs := [str J_5t, iv J_5j]) rfl rfl kp kl rfl rfl) ⟨_, rfl⟩) (tS 1 _) ?_
  exact ⟨qp_9, qs_10, J_5t, J_5j, (by omega), (by (try simp only [List.length_nil]); omega), rfl, rfl⟩

set_option maxRecDepth 4000 in
set_option maxHeartbeats 1000000 in
theorem D_disk23 (qb : Nat) (qa : Option Addr) (qc : Nat) (ql : Str) (qp : Nat) (qs : Int) (hql : ql.length ≤ 1048576) (hqp : qp ≤ ql.length) :
    Ct Tryz.prog 130 [.pointer (some ⟨qb, 0, none⟩)] [cb qb qa qc ql qp qs] (fun w => seesC w qa qc ql [cb qb qa qc ql qp qs]) (fun v A' => ∃ qp' qs' y, qp' ≤ ql.length ∧ Drawn2 y ∧ v = .agg #[.slice y.a y.l.length y.c, str y.jt, .int .i64 y.js] ∧ A' = [cb qb qa qc ql qp' qs', .rows (rdsD y)]) := by
  refine Ct.intro Tryz.func130 rfl Tryz.ntmps130 (lb rfl) fun w0 hpre => ?_
  have hs_qa : Sees w0 _ _ _ _ := hpre.1
  refine jC <| jF ?_
  refine jH rfl (jo (z := .agg #[.slice none 0 0, str [], iv 0]) (cs := [.slice none 0 0, str [], iv 0]) ko rfl) ?_
  rintro _ _ ⟨b_1, rfl, rfl⟩
  refine jE <| jB <| jC <| jF <| jA (jD (v := .pointer (some ⟨qb, 0, none⟩)) rfl) ?_
  refine jH rfl (jI [1] Tryz.call135 rfl (D_store qb qa qc ql qp qs (by omega) (by omega)) rfl (fun w hw => ⟨hw.seeOut_ hs_qa (hpre.2), hw.apart hs_qa (hpre.2) (by simp)⟩)) ?_
  rintro _ _ ⟨_, ⟨qp_2, qs_3, l_5a, l_5c, l_5, fq_4, f_6, rfl, rfl⟩, rfl⟩
  have hO1_ := f_6.1
  refine jH rfl (jI [] Tryz.call40 rfl (Y_specDiskNew l_5a l_5c l_5 (by omega)) rfl (fun w hw => hw.see (i := 1) rfl)) ?_
  rintro _ _ ⟨_, ⟨d_8, hd_9, rfl, rfl⟩, rfl⟩
  refine jH rfl (jo (z := .agg #[.slice none 0 0, str [], iv 0]) (cs := [.slice none 0 0, str [], iv 0]) ko rfl) ?_
  rintro _ _ ⟨b_10, rfl, rfl⟩
  refine jH rfl (ja 0 (vs := [.slice d_8.a d_8.l.length d_8.c, str d_8.jt, iv d_8.js]) (cs' := [.slice d_8.a d_8.l.length d_8.c, str d_8.jt, iv d_8.js]) rfl rfl rfl rfl kd rfl rfl (lb rfl) rfl) ?_
  rintro _ _ rfl
  refine jE <| jB <| jC <| jF <| jA (jD (v := .pointer (some ⟨qb, 0, none⟩)) rfl) ?_
  refine jH rfl (jI [2] Tryz.call155 rfl (D_jour22 qb qa qc ql qp_2 qs_3 (by omega) (by omega)) rfl (fun w hw => ⟨hw.seeOut_ hs_qa (hpre.2), hw.apart hs_qa (hpre.2) (by simp)⟩)) ?_
  rintro _ _ ⟨_, ⟨qp_11, qs_12, J_14t, J_14j, fq_13, f_15, rfl, rfl⟩, rfl⟩
  refine jA (jQ fo31_1 rfl) ?_
  refine jH rfl (ja 1 (vs := [str J_14t, iv J_14j]) (cs' := [.slice d_8.a d_8.l.length d_8.c, str J_14t, iv J_14j]) rfl rfl rfl rfl kl rfl rfl (lb rfl) rfl) ?_
  rintro _ _ rfl
  refine jE <| jB <| jC <| jC ?_
  have hDr : Drawn2 (⟨d_8.a, d_8.c, d_8.l, J_14t, J_14j⟩ : DX) := (drawn_new hd_9 (okC'.mono f_6 (by omega))).of rfl (by show J_14t.length ≤ _; omega)
  refine jF <| jA (jD (v := .pointer (some ⟨qb, 0, none⟩)) rfl) ?_
  refine jH rfl (jI [0] Tryz.call73 rfl (D_below qb qa qc ql qp_11 qs_12 (by omega) (by omega) 5 (by omega)) rfl (fun w hw => ⟨hw.seeOut_ hs_qa (hpre.2), hw.apart hs_qa (hpre.2) (by simp)⟩)) ?_
  rintro _ _ ⟨_, ⟨qp_17, qs_18, n_20, fq_19, f_21, rfl, rfl⟩, rfl⟩
  refine jE <| jB <| jf <| jC <| jF <| jA (kO rfl rfl) <| jA (jG (v := .bool (decide (((n_20 : Nat) : Int) = 0))) rfl) <| jE <| jB ?_
  by_cases h_23 : ((n_20 : Nat) : Int) = 0
  · refine jW (cB (dT h_23)) <| jF <| jK (jO 1 (vs := [.slice d_8.a d_8.l.length d_8.c, str J_14t, iv J_14j]) rfl rfl ke kd rfl rfl) ?_
    refine jH rfl (jI [] Tryz.call20 rfl (Y_sFoldB (⟨d_8.a, d_8.c, d_8.l, J_14t, J_14j⟩ : DX) hDr.z hDr.l) rfl (fun w hw => hw.seeRows 2 rfl)) ?_
    rintro _ _ ⟨_, ⟨y_24, hy_25, rfl, rfl⟩, rfl⟩
    refine jA (jD (v := .tuple #[.agg #[.slice y_24.a y_24.l.length y_24.c, str y_24.jt, iv y_24.js], .bool (((⟨d_8.a, d_8.c, d_8.l, J_14t, J_14j⟩ : DX).dat.foldB).2)]) rfl) <| jA (je (v := .agg #[.slice y_24.a y_24.l.length y_24.c, str y_24.jt, iv y_24.js]) rfl rfl) <| jA (je (v := .bool (((⟨d_8.a, d_8.c, d_8.l, J_14t, J_14j⟩ : DX).dat.foldB).2)) rfl rfl) ?_
    refine jH rfl (ja 2 (vs := [.slice y_24.a y_24.l.length y_24.c, str y_24.jt, iv y_24.js]) (cs' := [.slice y_24.a y_24.l.length y_24.c, str y_24.jt, iv y_24.js]) rfl rfl rfl rfl kd rfl rfl (lb rfl) rfl) ?_
    rintro _ _ rfl
    refine jE <| jm <| jB <| jC <| jF <| jK (jO 2 (vs := [.slice y_24.a y_24.l.length y_24.c, str y_24.jt, iv y_24.js]) rfl rfl ke kd rfl rfl) ?_
    refine jH rfl (ja 5 (vs := [.slice y_24.a y_24.l.length y_24.c, str y_24.jt, iv y_24.js]) (cs' := [.slice y_24.a y_24.l.length y_24.c, str y_24.jt, iv y_24.js]) rfl rfl rfl rfl kd rfl rfl (lb rfl) rfl) ?_
    rintro _ _ rfl
    refine jE <| jB <| jN <| kM (pick_perm [1, 0] (A := [cb qb qa qc ql qp_17 qs_18, Res.rows (rdsD y_24)]) (F := [bk b_10 31 [.slice y_24.a y_24.l.length y_24.c, str y_24.jt, iv y_24.js], Res.rows (rdsD d_8), rC l_5a l_5c l_5, bk b_1 31 [.slice y_24.a y_24.l.length y_24.c, str y_24.jt, iv y_24.js]]) rfl).symm <| jV (.inl rfl) rfl (kA (jO 5 (vs := [.slice y_24.a y_24.l.length y_24.c, str y_24.jt, iv y_24.js]) rfl rfl ke kd rfl rfl) ⟨_, rfl⟩) (tS 2 _) ?_
    exact ⟨qp_17, qs_18, y_24, by omega, hDr.foldB hy_25, rfl, rfl⟩
  refine jR (cB (dF h_23)) <| jC <| jF <| jA (kO rfl rfl) <| jA (jG (v := .bool (decide (((n_20 : Nat) : Int) = 1))) rfl) <| jE <| jB ?_
  by_cases h_26 : ((n_20 : Nat) : Int) = 1
  · refine jW (cB (dT h_26)) <| jC <| jF <| jK (jO 1 (vs := [.slice d_8.a d_8.l.length d_8.c, str J_14t, iv J_14j]) rfl rfl ke kd rfl rfl) ?_
    refine jH rfl (jI [] Tryz.call20 rfl (Y_sFoldB (⟨d_8.a, d_8.c, d_8.l, J_14t, J_14j⟩ : DX) hDr.z hDr.l) rfl (fun w hw => hw.seeRows 2 rfl)) ?_
    rintro _ _ ⟨_, ⟨y_27, hy_28, rfl, rfl⟩, rfl⟩
    refine jA (jD (v := .tuple #[.agg #[.slice y_27.a y_27.l.length y_27.c, str y_27.jt, iv y_27.js], .bool (((⟨d_8.a, d_8.c, d_8.l, J_14t, J_14j⟩ : DX).dat.foldB).2)]) rfl) <| jA (je (v := .agg #[.slice y_27.a y_27.l.length y_27.c, str y_27.jt, iv y_27.js]) rfl rfl) <| jA (je (v := .bool (((⟨d_8.a, d_8.c, d_8.l, J_14t, J_14j⟩ : DX).dat.foldB).2)) rfl rfl) ?_
    refine jH rfl (ja 2 (vs := [.slice y_27.a y_27.l.length y_27.c, str y_27.jt, iv y_27.js]) (cs' := [.slice y_27.a y_27.l.length y_27.c, str y_27.jt, iv y_27.js]) rfl rfl rfl rfl kd rfl rfl (lb rfl) rfl) ?_
    rintro _ _ rfl
    refine jE <| jB ?_
    have hDr2 := hDr.foldB hy_28
    refine jF <| jK (jO 2 (vs := [.slice y_27.a y_27.l.length y_27.c, str y_27.jt, iv y_27.js]) rfl rfl ke kd rfl rfl) ?_
    refine jH rfl (jI [] Tryz.call38 rfl (Y_sFoldE y_27 hDr2.z hDr2.l) rfl (fun w hw => hw.seeRows 0 rfl)) ?_
    rintro _ _ ⟨_, ⟨y_29, hy_30, rfl, rfl⟩, rfl⟩
    refine jA (jD (v := .tuple #[.agg #[.slice y_29.a y_29.l.length y_29.c, str y_29.jt, iv y_29.js], .bool ((y_27.dat.foldE).2)]) rfl) <| jA (je (v := .agg #[.slice y_29.a y_29.l.length y_29.c, str y_29.jt, iv y_29.js]) rfl rfl) <| jA (je (v := .bool ((y_27.dat.foldE).2)) rfl rfl) ?_
    refine jH rfl (ja 3 (vs := [.slice y_29.a y_29.l.length y_29.c, str y_29.jt, iv y_29.js]) (cs' := [.slice y_29.a y_29.l.length y_29.c, str y_29.jt, iv y_29.js]) rfl rfl rfl rfl kd rfl rfl (lb rfl) rfl) ?_
    rintro _ _ rfl
    refine jE <| jm <| jB <| jC <| jF <| jK (jO 3 (vs := [.slice y_29.a y_29.l.length y_29.c, str y_29.jt, iv y_29.js]) rfl rfl ke kd rfl rfl) ?_
    refine jH rfl (ja 6 (vs := [.slice y_29.a y_29.l.length y_29.c, str y_29.jt, iv y_29.js]) (cs' := [.slice y_29.a y_29.l.length y_29.c, str y_29.jt, iv y_29.js]) rfl rfl rfl rfl kd rfl rfl (lb rfl) rfl) ?_
    rintro _ _ rfl
    refine jE <| jB <| jN <| kM (pick_perm [2, 0] (A := [cb qb qa qc ql qp_17 qs_18, Res.rows (rdsD y_29)]) (F := [Res.rows (rdsD y_27), bk b_10 31 [.slice y_29.a y_29.l.length y_29.c, str y_29.jt, iv y_29.js], Res.rows (rdsD d_8), rC l_5a l_5c l_5, bk b_1 31 [.slice y_29.a y_29.l.length y_29.c, str y_29.jt, iv y_29.js]]) rfl).symm <| jV (.inl rfl) rfl (kA (jO 6 (vs := [.slice y_29.a y_29.l.length y_29.c, str y_29.jt, iv y_29.js]) rfl rfl ke kd rfl rfl) ⟨_, rfl⟩) (tS 2 _) ?_
    exact ⟨qp_17, qs_18, y_29, by omega, hDr2.foldE hy_30, rfl, rfl⟩
  refine jR (cB (dF h_26)) <| jT <| jm <| jB <| jC <| jF <| jK (jO 1 (vs := [.slice d_8.a d_8.l.length d_8.c, str J_14t, iv J_14j]) rfl rfl ke kd rfl rfl) ?_
  refine jH rfl (ja 4 (vs := [.slice d_8.a d_8.l.length d_8.c, str J_14t, iv J_14j]) (cs' := [.slice d_8.a d_8.l.length d_8.c, str J_14t, iv J_14j]) rfl rfl rfl rfl kd rfl rfl (lb rfl) rfl) ?_
  rintro _ _ rfl
  refine jE <| jB <| jN <| kM (pick_perm [0, 1] (A := [cb qb qa qc ql qp_17 qs_18, Res.rows (rdsD d_8)]) (F := [bk b_10 31 [.slice d_8.a d_8.l.length d_8.c, str J_14t, iv J_14j], rC l_5a l_5c l_5, bk b_1 31 [.slice d_8.a d_8.l.length d_8.c, str J_14t, iv J_14j]]) rfl).symm <| jV (.inl rfl) rfl (kA (jO 4 (vs := [.slice d_8.a d_8.l.length d_8.c, str J_14t, iv J_14j]) rfl rfl ke kd rfl rfl) ⟨_, rfl⟩) (tS 2 _) ?_
  exact ⟨qp_17, qs_18, (⟨d_8.a, d_8.c, d_8.l, J_14t, J_14j⟩ : DX), by omega, hDr, rfl, rfl⟩

set_option maxRecDepth 4000 in
set_option maxHeartbeats 1000000 in
theorem D_anyDisk (qb : Nat) (qa : Option Addr) (qc : Nat) (ql : Str) (qp : Nat) (qs : Int) (hql : ql.length ≤ 1048576) (hqp : qp ≤ ql.length) :
    Ct Tryz.prog 88 [.pointer (some ⟨qb, 0, none⟩)] [cb qb qa qc ql qp qs] (fun w => seesC w qa qc ql [cb qb qa qc ql qp qs]) (fun v A' => ∃ qp' qs' y, qp' ≤ ql.length ∧ Drawn y ∧ v = .agg #[.slice y.a y.l.length y.c, str y.jt, .int .i64 y.js] ∧ A' = [cb qb qa qc ql qp' qs', .rows (rdsD y)]) := by
  refine Ct.intro Tryz.func88 rfl Tryz.ntmps88 (lb rfl) fun w0 hpre => ?_
  have hs_qa : Sees w0 _ _ _ _ := hpre.1
  refine jC <| jF ?_
  refine jH rfl (jo (z := .agg #[.slice none 0 0, str [], iv 0]) (cs := [.slice none 0 0, str [], iv 0]) ko rfl) ?_
  rintro _ _ ⟨b_1, rfl, rfl⟩
  refine jE <| jB <| jC <| jF <| jA (jD (v := .pointer (some ⟨qb, 0, none⟩)) rfl) ?_
  refine jH rfl (jI [1] Tryz.call130 rfl (D_disk23 qb qa qc ql qp qs (by omega) (by omega)) rfl (fun w hw => ⟨hw.seeOut_ hs_qa (hpre.2), hw.apart hs_qa (hpre.2) (by simp)⟩)) ?_
  rintro _ _ ⟨_, ⟨qp_2, qs_3, y_5, fq_4, hd_6, rfl, rfl⟩, rfl⟩
  refine jH rfl (jo (z := .agg #[.slice none 0 0, str [], iv 0]) (cs := [.slice none 0 0, str [], iv 0]) ko rfl) ?_
  rintro _ _ ⟨b_7, rfl, rfl⟩
  refine jH rfl (ja 0 (vs := [.slice y_5.a y_5.l.length y_5.c, str y_5.jt, iv y_5.js]) (cs' := [.slice y_5.a y_5.l.length y_5.c, str y_5.jt, iv y_5.js]) rfl rfl rfl rfl kd rfl rfl (lb rfl) rfl) ?_
  rintro _ _ rfl
  refine jE <| jB <| jC <| jC <| jF <| jA (jD (v := .pointer (some ⟨qb, 0, none⟩)) rfl) ?_
  refine jH rfl (jI [1] Tryz.call73 rfl (D_below qb qa qc ql qp_2 qs_3 (by omega) (by omega) 14 (by omega)) rfl (fun w hw => ⟨hw.seeOut_ hs_qa (hpre.2), hw.apart hs_qa (hpre.2) (by simp)⟩)) ?_
  rintro _ _ ⟨_, ⟨qp_8, qs_9, n_11, fq_10, f_12, rfl, rfl⟩, rfl⟩
  refine jE <| jB <| jf <| jC <| jF <| jA (kO rfl rfl) <| jA (jG (v := .bool (decide (((n_11 : Nat) : Int) = 0))) rfl) <| jE <| jB ?_
  by_cases h_14 : ((n_11 : Nat) : Int) = 0
  · refine jW (cB (dT h_14)) ?_
    have hy2 := hd_6.n
    refine kT (L' := [Res.row (.slice y_5.a y_5.l.length y_5.c) 60 3 y_5.l.length (y_5.l.flatMap encO), Res.rows (y_5.l.flatMap rdsO), cb qb qa qc ql qp_8 qs_9, bk b_7 31 [.slice y_5.a y_5.l.length y_5.c, str y_5.jt, iv y_5.js], bk b_1 31 [.slice none 0 0, str [], iv 0]]) (fun w hw => hw.headR (r := ⟨.slice y_5.a y_5.l.length y_5.c, 60, 3, y_5.l.length, y_5.l.flatMap encO⟩) (A := y_5.l.flatMap rdsO) 2 rfl) <| jF <| jA (jQ fo31_0 rfl) <| jK (jZ 3 (v := .slice y_5.a y_5.l.length y_5.c) rfl rfl ks rfl) ?_
    refine kN fun hst => ?_
    obtain ⟨hr_15, hr_15b, -⟩ := row_some 0 rfl (by omega) hst
    refine jA (jk (i := 0) km kj hr_15 hr_15b rfl rfl (by omega)) <| jA (kL fo60_2 hr_15 rfl) ?_
    refine jH rfl (JO.storeR 0 (vs := [.bool false]) (cs' := (y_5.l.set 0 (⟨⟨(y_5.l.getD 0 o0).x.a0, ((y_5.l.getD 0 o0).x.c0)⟩, ⟨(y_5.l.getD 0 o0).t.seq, (y_5.l.getD 0 o0).t.cells, false⟩⟩ : OX)).flatMap encO) rfl rfl rfl rfl Tryz.sizeOf4 rfl rfl (by decide) (by rw [flat_length encO_len]; omega) (flat_set1 encO_len o0 (f := 2) (y := (⟨⟨(y_5.l.getD 0 o0).x.a0, ((y_5.l.getD 0 o0).x.c0)⟩, ⟨(y_5.l.getD 0 o0).t.seq, (y_5.l.getD 0 o0).t.cells, false⟩⟩ : OX)) (by omega) (by decide) rfl)) ?_
    rintro _ _ rfl
    refine jE <| jm <| jB <| jC <| jF <| jK (jO 3 (vs := [.slice y_5.a y_5.l.length y_5.c, str y_5.jt, iv y_5.js]) rfl rfl ke kd rfl rfl) ?_
    refine jH rfl (ja 4 (vs := [.slice y_5.a y_5.l.length y_5.c, str y_5.jt, iv y_5.js]) (cs' := [.slice y_5.a y_5.l.length y_5.c, str y_5.jt, iv y_5.js]) rfl rfl rfl rfl kd rfl rfl (lb rfl) rfl) ?_
    rintro _ _ rfl
    refine jE <| jB <| jN ?_
    have hi1 : 0 < y_5.l.length := by omega
    refine ju (L' := [Res.rows ((y_5.l.set 0 (⟨⟨(y_5.l.getD 0 o0).x.a0, ((y_5.l.getD 0 o0).x.c0)⟩, ⟨(y_5.l.getD 0 o0).t.seq, (y_5.l.getD 0 o0).t.cells, false⟩⟩ : OX)).flatMap rdsO), Res.row (.slice y_5.a y_5.l.length y_5.c) 60 3 y_5.l.length ((y_5.l.set 0 (⟨⟨(y_5.l.getD 0 o0).x.a0, ((y_5.l.getD 0 o0).x.c0)⟩, ⟨(y_5.l.getD 0 o0).t.seq, (y_5.l.getD 0 o0).t.cells, false⟩⟩ : OX)).flatMap encO), cb qb qa qc ql qp_8 qs_9, bk b_7 31 [.slice y_5.a y_5.l.length y_5.c, str y_5.jt, iv y_5.js], bk b_1 31 [.slice y_5.a y_5.l.length y_5.c, str y_5.jt, iv y_5.js]]) (fun w hw => hw.rowsEq 1 (A := y_5.l.flatMap rdsO) (B := (y_5.l.set 0 (⟨⟨(y_5.l.getD 0 o0).x.a0, ((y_5.l.getD 0 o0).x.c0)⟩, ⟨(y_5.l.getD 0 o0).t.seq, (y_5.l.getD 0 o0).t.cells, false⟩⟩ : OX)).flatMap rdsO) (F := [Res.row (.slice y_5.a y_5.l.length y_5.c) 60 3 y_5.l.length ((y_5.l.set 0 (⟨⟨(y_5.l.getD 0 o0).x.a0, ((y_5.l.getD 0 o0).x.c0)⟩, ⟨(y_5.l.getD 0 o0).t.seq, (y_5.l.getD 0 o0).t.cells, false⟩⟩ : OX)).flatMap encO), cb qb qa qc ql qp_8 qs_9, bk b_7 31 [.slice y_5.a y_5.l.length y_5.c, str y_5.jt, iv y_5.js], bk b_1 31 [.slice y_5.a y_5.l.length y_5.c, str y_5.jt, iv y_5.js]]) rfl (flatMap_sameO (l := y_5.l) (i := 0) (x := (⟨⟨(y_5.l.getD 0 o0).x.a0, ((y_5.l.getD 0 o0).x.c0)⟩, ⟨(y_5.l.getD 0 o0).t.seq, (y_5.l.getD 0 o0).t.cells, false⟩⟩ : OX)) hi1 rfl).symm) ?_
    have hzo : ((y_5.l.getD 0 o0).t).okz := hd_6.z.k1 _ (List.mem_map_of_mem (getD_mem (d := o0) hi1))
    refine ju (L' := [Res.rows ((y_5.l.set 0 (⟨⟨(y_5.l.getD 0 o0).x.a0, ((y_5.l.getD 0 o0).x.c0)⟩, ⟨(y_5.l.getD 0 o0).t.seq, (y_5.l.getD 0 o0).t.cells, false⟩⟩ : OX)).flatMap rdsO), Res.row (.slice y_5.a ((y_5.l.set 0 (⟨⟨(y_5.l.getD 0 o0).x.a0, ((y_5.l.getD 0 o0).x.c0)⟩, ⟨(y_5.l.getD 0 o0).t.seq, (y_5.l.getD 0 o0).t.cells, false⟩⟩ : OX)).length) y_5.c) 60 3 ((y_5.l.set 0 (⟨⟨(y_5.l.getD 0 o0).x.a0, ((y_5.l.getD 0 o0).x.c0)⟩, ⟨(y_5.l.getD 0 o0).t.seq, (y_5.l.getD 0 o0).t.cells, false⟩⟩ : OX)).length) ((y_5.l.set 0 (⟨⟨(y_5.l.getD 0 o0).x.a0, ((y_5.l.getD 0 o0).x.c0)⟩, ⟨(y_5.l.getD 0 o0).t.seq, (y_5.l.getD 0 o0).t.cells, false⟩⟩ : OX)).flatMap encO), cb qb qa qc ql qp_8 qs_9, bk b_7 31 [.slice y_5.a y_5.l.length y_5.c, str y_5.jt, iv y_5.js], bk b_1 31 [.slice y_5.a y_5.l.length y_5.c, str y_5.jt, iv y_5.js]]) (fun w hw => hw.eqL (by simp only [List.length_set])) <| ju (L' := [Res.rows (rdsOS y_5.a y_5.c (y_5.l.set 0 (⟨⟨(y_5.l.getD 0 o0).x.a0, ((y_5.l.getD 0 o0).x.c0)⟩, ⟨(y_5.l.getD 0 o0).t.seq, (y_5.l.getD 0 o0).t.cells, false⟩⟩ : OX))), cb qb qa qc ql qp_8 qs_9, bk b_7 31 [.slice y_5.a y_5.l.length y_5.c, str y_5.jt, iv y_5.js], bk b_1 31 [.slice y_5.a y_5.l.length y_5.c, str y_5.jt, iv y_5.js]]) (fun w hw => hw.consR (r := ⟨.slice y_5.a ((y_5.l.set 0 (⟨⟨(y_5.l.getD 0 o0).x.a0, ((y_5.l.getD 0 o0).x.c0)⟩, ⟨(y_5.l.getD 0 o0).t.seq, (y_5.l.getD 0 o0).t.cells, false⟩⟩ : OX)).length) y_5.c, 60, 3, (y_5.l.set 0 (⟨⟨(y_5.l.getD 0 o0).x.a0, ((y_5.l.getD 0 o0).x.c0)⟩, ⟨(y_5.l.getD 0 o0).t.seq, (y_5.l.getD 0 o0).t.cells, false⟩⟩ : OX)).length, (y_5.l.set 0 (⟨⟨(y_5.l.getD 0 o0).x.a0, ((y_5.l.getD 0 o0).x.c0)⟩, ⟨(y_5.l.getD 0 o0).t.seq, (y_5.l.getD 0 o0).t.cells, false⟩⟩ : OX)).flatMap encO⟩) (A := (y_5.l.set 0 (⟨⟨(y_5.l.getD 0 o0).x.a0, ((y_5.l.getD 0 o0).x.c0)⟩, ⟨(y_5.l.getD 0 o0).t.seq, (y_5.l.getD 0 o0).t.cells, false⟩⟩ : OX)).flatMap rdsO) [1, 0] rfl) <| kM (pick_perm [1, 0] (A := [cb qb qa qc ql qp_8 qs_9, Res.rows (rdsOS y_5.a y_5.c (y_5.l.set 0 (⟨⟨(y_5.l.getD 0 o0).x.a0, ((y_5.l.getD 0 o0).x.c0)⟩, ⟨(y_5.l.getD 0 o0).t.seq, (y_5.l.getD 0 o0).t.cells, false⟩⟩ : OX)))]) (F := [bk b_7 31 [.slice y_5.a y_5.l.length y_5.c, str y_5.jt, iv y_5.js], bk b_1 31 [.slice y_5.a y_5.l.length y_5.c, str y_5.jt, iv y_5.js]]) rfl).symm <| jV (.inl rfl) rfl (kA (jO 3 (vs := [.slice y_5.a y_5.l.length y_5.c, str y_5.jt, iv y_5.js]) rfl rfl ke kd rfl rfl) ⟨_, rfl⟩) (tS 2 _) ?_
    exact ⟨qp_8, qs_9, (⟨y_5.a, y_5.c, y_5.l.set 0 (⟨⟨(y_5.l.getD 0 o0).x.a0, ((y_5.l.getD 0 o0).x.c0)⟩, ⟨(y_5.l.getD 0 o0).t.seq, (y_5.l.getD 0 o0).t.cells, false⟩⟩ : OX), y_5.jt, y_5.js⟩ : DX), by omega, hd_6.toDrawn.set ⟨hzo.k0⟩ ⟨(hd_6.l.l1 _ (List.mem_map_of_mem (getD_mem (d := o0) hi1))).l0⟩, by simp only [List.length_set], rfl⟩
  refine jR (cB (dF h_14)) <| jC <| jF <| jA (kO rfl rfl) <| jA (jG (v := .bool (decide (((n_11 : Nat) : Int) = 1))) rfl) <| jE <| jB ?_
  by_cases h_16 : ((n_11 : Nat) : Int) = 1
  · refine jW (cB (dT h_16)) ?_
    have hy2 := hd_6.n
    refine kT (L' := [Res.row (.slice y_5.a y_5.l.length y_5.c) 60 3 y_5.l.length (y_5.l.flatMap encO), Res.rows (y_5.l.flatMap rdsO), cb qb qa qc ql qp_8 qs_9, bk b_7 31 [.slice y_5.a y_5.l.length y_5.c, str y_5.jt, iv y_5.js], bk b_1 31 [.slice none 0 0, str [], iv 0]]) (fun w hw => hw.headR (r := ⟨.slice y_5.a y_5.l.length y_5.c, 60, 3, y_5.l.length, y_5.l.flatMap encO⟩) (A := y_5.l.flatMap rdsO) 2 rfl) <| kJ [bk b_7 31 [.slice y_5.a y_5.l.length y_5.c, str y_5.jt, iv y_5.js]] 8 mixed (by simp) <| jL 0 rfl (jQ fo31_0 rfl) <| jw 1 rfl (jZ 0 (v := .slice y_5.a y_5.l.length y_5.c) rfl rfl ks rfl) <| jL 2 rfl (jD (v := .pointer (some ⟨qb, 0, none⟩)) rfl) <| jL 5 rfl (jD (v := .pointer (some ⟨qb, 0, none⟩)) rfl) <| jj (i := 3) ?_
    refine jz rfl rfl (kH (ps := [(0, iv 1), (1, iv 99999), (2, iv 100000), (3, iv (-1))]) (cur := #[iv 1, iv 99999, iv 100000, iv (-1)]) Tryz.underlying41 gA Tryz.zeroValue3 rfl (by kernel_rfl) (by decide) (by decide)) ?_
    rintro _ _ ⟨a_19, rfl, rfl⟩
    refine ⟨(by simp), ?_⟩
    refine jj (i := 4) ?_
    refine jz rfl rfl (jI [3, 0] Tryz.call98 rfl (D_pickInt qb qa qc ql qp_8 qs_9 a_19 4 ([1, 99999, 100000, -1] : List Int) (by omega) (by omega) (by simp) (by simp)) rfl (fun w hw => ⟨hw.seeOut_ hs_qa (hpre.2), hw.apart hs_qa (hpre.2) (by simp)⟩)) ?_
    rintro _ _ ⟨_, ⟨qp_26, qs_27, n_29, fq_28, f_30, rfl, rfl⟩, rfl⟩
    have hbn_29 : -9223372036854775808 ≤ n_29 ∧ n_29 ≤ 9223372036854775807 := by have hx_ := f_30; simp only [List.mem_cons, List.not_mem_nil, or_false] at hx_; omega
    refine ⟨(by simp), ?_⟩
    refine jj (i := 6) ?_
    refine jz rfl rfl (jI [0] Tryz.call100 rfl (D_any02 qb qa qc ql qp_26 qs_27 (by omega) (by omega)) rfl (fun w hw => ⟨hw.seeOut_ hs_qa (hpre.2), hw.apart hs_qa (hpre.2) (by simp)⟩)) ?_
    rintro _ _ ⟨_, ⟨qp_38, qs_39, l_41a, l_41c, l_41, fq_40, f_42, rfl, rfl⟩, rfl⟩
    have hO1_ := f_42.1
    refine ⟨(by simp), ?_⟩
    refine jL 7 rfl (kW (ps := [(0, iv n_29), (1, .slice l_41a l_41.length l_41c), (2, .bool true)]) (cs := [iv n_29, .slice l_41a l_41.length l_41c, .bool true]) rfl (by kernel_rfl)) ?_
    refine JA.facts fun hst => ?_
    obtain ⟨hr_44, hr_44b, -⟩ := row_some 2 rfl (by omega) hst
    refine jL 8 rfl (jk (i := 1) km kj hr_44 hr_44b rfl rfl (by omega)) <| jj (i := 9) ?_
    refine JX.ls rfl (JO.storeR 2 (vs := [iv n_29, .slice l_41a l_41.length l_41c, .bool true]) (cs' := (y_5.l.set 1 (⟨⟨l_41a, l_41c⟩, ⟨n_29, l_41, true⟩⟩ : OX)).flatMap encO) rfl rfl rfl rfl kj rfl rfl (by decide) (by rw [flat_length encO_len]; omega) (flat_set encO_len y_5.l 1 (⟨⟨l_41a, l_41c⟩, ⟨n_29, l_41, true⟩⟩ : OX) (by omega))) ?_
    rintro _ _ rfl
    refine jm <| jB <| jC <| jF <| jK (jO 4 (vs := [.slice y_5.a y_5.l.length y_5.c, str y_5.jt, iv y_5.js]) rfl rfl ke kd rfl rfl) ?_
    refine jH rfl (ja 5 (vs := [.slice y_5.a y_5.l.length y_5.c, str y_5.jt, iv y_5.js]) (cs' := [.slice y_5.a y_5.l.length y_5.c, str y_5.jt, iv y_5.js]) rfl rfl rfl rfl kd rfl rfl (lb rfl) rfl) ?_
    rintro _ _ rfl
    refine jE <| jB <| jN ?_
    have hi1 : 1 < y_5.l.length := by omega
    refine ju (L' := [Res.rows ((y_5.l.take 1).flatMap rdsO), Res.rows (rdsO (y_5.l.getD 1 o0)), Res.rows ((y_5.l.drop (1 + 1)).flatMap rdsO), cb qb qa qc ql qp_38 qs_39, rC l_41a l_41c l_41, Res.row (.slice y_5.a y_5.l.length y_5.c) 60 3 y_5.l.length ((y_5.l.set 1 (⟨⟨l_41a, l_41c⟩, ⟨n_29, l_41, true⟩⟩ : OX)).flatMap encO), bk b_7 31 [.slice y_5.a y_5.l.length y_5.c, str y_5.jt, iv y_5.js], bk b_1 31 [.slice y_5.a y_5.l.length y_5.c, str y_5.jt, iv y_5.js]]) (fun w hw => hw.splitR 3 rfl (flatMap_at o0 hi1)) <| ju (L' := [Res.rows (rdsO (⟨⟨l_41a, l_41c⟩, ⟨n_29, l_41, true⟩⟩ : OX)), Res.rows ((y_5.l.take 1).flatMap rdsO), Res.rows (rdsO (y_5.l.getD 1 o0)), Res.rows ((y_5.l.drop (1 + 1)).flatMap rdsO), cb qb qa qc ql qp_38 qs_39, Res.row (.slice y_5.a y_5.l.length y_5.c) 60 3 y_5.l.length ((y_5.l.set 1 (⟨⟨l_41a, l_41c⟩, ⟨n_29, l_41, true⟩⟩ : OX)).flatMap encO), bk b_7 31 [.slice y_5.a y_5.l.length y_5.c, str y_5.jt, iv y_5.js], bk b_1 31 [.slice y_5.a y_5.l.length y_5.c, str y_5.jt, iv y_5.js]]) (fun w hw => hw.closeR (A := rdsO (⟨⟨l_41a, l_41c⟩, ⟨n_29, l_41, true⟩⟩ : OX)) [4] rfl) <| ju (L' := [Res.rows ((y_5.l.set 1 (⟨⟨l_41a, l_41c⟩, ⟨n_29, l_41, true⟩⟩ : OX)).flatMap rdsO), Res.rows (rdsO (y_5.l.getD 1 o0)), cb qb qa qc ql qp_38 qs_39, Res.row (.slice y_5.a y_5.l.length y_5.c) 60 3 y_5.l.length ((y_5.l.set 1 (⟨⟨l_41a, l_41c⟩, ⟨n_29, l_41, true⟩⟩ : OX)).flatMap encO), bk b_7 31 [.slice y_5.a y_5.l.length y_5.c, str y_5.jt, iv y_5.js], bk b_1 31 [.slice y_5.a y_5.l.length y_5.c, str y_5.jt, iv y_5.js]]) (fun w hw => hw.joinR [1, 0, 1] rfl (flatMap_setAt hi1)) <| ju (L' := [Res.rows ((y_5.l.set 1 (⟨⟨l_41a, l_41c⟩, ⟨n_29, l_41, true⟩⟩ : OX)).flatMap rdsO), Res.rows (rdsO (y_5.l.getD 1 o0)), cb qb qa qc ql qp_38 qs_39, Res.row (.slice y_5.a ((y_5.l.set 1 (⟨⟨l_41a, l_41c⟩, ⟨n_29, l_41, true⟩⟩ : OX)).length) y_5.c) 60 3 ((y_5.l.set 1 (⟨⟨l_41a, l_41c⟩, ⟨n_29, l_41, true⟩⟩ : OX)).length) ((y_5.l.set 1 (⟨⟨l_41a, l_41c⟩, ⟨n_29, l_41, true⟩⟩ : OX)).flatMap encO), bk b_7 31 [.slice y_5.a y_5.l.length y_5.c, str y_5.jt, iv y_5.js], bk b_1 31 [.slice y_5.a y_5.l.length y_5.c, str y_5.jt, iv y_5.js]]) (fun w hw => hw.eqL (by simp only [List.length_set])) <| ju (L' := [Res.rows (rdsOS y_5.a y_5.c (y_5.l.set 1 (⟨⟨l_41a, l_41c⟩, ⟨n_29, l_41, true⟩⟩ : OX))), Res.rows (rdsO (y_5.l.getD 1 o0)), cb qb qa qc ql qp_38 qs_39, bk b_7 31 [.slice y_5.a y_5.l.length y_5.c, str y_5.jt, iv y_5.js], bk b_1 31 [.slice y_5.a y_5.l.length y_5.c, str y_5.jt, iv y_5.js]]) (fun w hw => hw.consR (r := ⟨.slice y_5.a ((y_5.l.set 1 (⟨⟨l_41a, l_41c⟩, ⟨n_29, l_41, true⟩⟩ : OX)).length) y_5.c, 60, 3, (y_5.l.set 1 (⟨⟨l_41a, l_41c⟩, ⟨n_29, l_41, true⟩⟩ : OX)).length, (y_5.l.set 1 (⟨⟨l_41a, l_41c⟩, ⟨n_29, l_41, true⟩⟩ : OX)).flatMap encO⟩) (A := (y_5.l.set 1 (⟨⟨l_41a, l_41c⟩, ⟨n_29, l_41, true⟩⟩ : OX)).flatMap rdsO) [3, 0] rfl) <| kM (pick_perm [2, 0] (A := [cb qb qa qc ql qp_38 qs_39, Res.rows (rdsOS y_5.a y_5.c (y_5.l.set 1 (⟨⟨l_41a, l_41c⟩, ⟨n_29, l_41, true⟩⟩ : OX)))]) (F := [Res.rows (rdsO (y_5.l.getD 1 o0)), bk b_7 31 [.slice y_5.a y_5.l.length y_5.c, str y_5.jt, iv y_5.js], bk b_1 31 [.slice y_5.a y_5.l.length y_5.c, str y_5.jt, iv y_5.js]]) rfl).symm <| jV (.inl rfl) rfl (kA (jO 4 (vs := [.slice y_5.a y_5.l.length y_5.c, str y_5.jt, iv y_5.js]) rfl rfl ke kd rfl rfl) ⟨_, rfl⟩) (tS 2 _) ?_
    exact ⟨qp_38, qs_39, (⟨y_5.a, y_5.c, y_5.l.set 1 (⟨⟨l_41a, l_41c⟩, ⟨n_29, l_41, true⟩⟩ : OX), y_5.jt, y_5.js⟩ : DX), by omega, hd_6.toDrawn.set ⟨okC'.okC f_42 (by decide) (by decide)⟩ ⟨Nat.le_trans f_42.1 (by decide)⟩, by simp only [List.length_set], rfl⟩
  refine jR (cB (dF h_16)) <| jC <| jF <| jA (kO rfl rfl) <| jA (jG (v := .bool (decide (((n_11 : Nat) : Int) = 2))) rfl) <| jE <| jB ?_
  by_cases h_45 : ((n_11 : Nat) : Int) = 2
  · refine jW (cB (dT h_45)) <| jF <| jA (jD (v := .pointer (some ⟨qb, 0, none⟩)) rfl) ?_
    refine jH rfl (jI [0] Tryz.call131 rfl (D_jany22 qb qa qc ql qp_8 qs_9 (by omega) (by omega)) rfl (fun w hw => ⟨hw.seeOut_ hs_qa (hpre.2), hw.apart hs_qa (hpre.2) (by simp)⟩)) ?_
    rintro _ _ ⟨_, ⟨qp_46, qs_47, J_49t, J_49j, fq_48, f_50, rfl, rfl⟩, rfl⟩
    refine jA (jQ fo31_1 rfl) ?_
    refine jH rfl (ja 1 (vs := [str J_49t, iv J_49j]) (cs' := [.slice y_5.a y_5.l.length y_5.c, str J_49t, iv J_49j]) rfl rfl rfl rfl kl rfl rfl (lb rfl) rfl) ?_
    rintro _ _ rfl
    refine jE <| jm <| jB <| jC <| jF <| jK (jO 1 (vs := [.slice y_5.a y_5.l.length y_5.c, str J_49t, iv J_49j]) rfl rfl ke kd rfl rfl) ?_
    refine jH rfl (ja 3 (vs := [.slice y_5.a y_5.l.length y_5.c, str J_49t, iv J_49j]) (cs' := [.slice y_5.a y_5.l.length y_5.c, str J_49t, iv J_49j]) rfl rfl rfl rfl kd rfl rfl (lb rfl) rfl) ?_
    rintro _ _ rfl
    refine jE <| jB <| jN <| kM (pick_perm [0, 1] (A := [cb qb qa qc ql qp_46 qs_47, Res.rows (rdsD y_5)]) (F := [bk b_7 31 [.slice y_5.a y_5.l.length y_5.c, str J_49t, iv J_49j], bk b_1 31 [.slice y_5.a y_5.l.length y_5.c, str J_49t, iv J_49j]]) rfl).symm <| jV (.inl rfl) rfl (kA (jO 3 (vs := [.slice y_5.a y_5.l.length y_5.c, str J_49t, iv J_49j]) rfl rfl ke kd rfl rfl) ⟨_, rfl⟩) (tS 2 _) ?_
    exact ⟨qp_46, qs_47, (⟨y_5.a, y_5.c, y_5.l, J_49t, J_49j⟩ : DX), by omega, hd_6.toDrawn.of rfl (by show J_49t.length ≤ _; first | omega | exact hd_6.j), rfl, rfl⟩
  refine jR (cB (dF h_45)) <| jC <| jF <| jA (kO rfl rfl) <| jA (jG (v := .bool (decide (((n_11 : Nat) : Int) = 3))) rfl) <| jE <| jB ?_
  by_cases h_52 : ((n_11 : Nat) : Int) = 3
  · refine jW (cB (dT h_52)) ?_
    have hy2 := hd_6.n
    refine kT (L' := [Res.row (.slice y_5.a y_5.l.length y_5.c) 60 3 y_5.l.length (y_5.l.flatMap encO), Res.rows (y_5.l.flatMap rdsO), cb qb qa qc ql qp_8 qs_9, bk b_7 31 [.slice y_5.a y_5.l.length y_5.c, str y_5.jt, iv y_5.js], bk b_1 31 [.slice none 0 0, str [], iv 0]]) (fun w hw => hw.headR (r := ⟨.slice y_5.a y_5.l.length y_5.c, 60, 3, y_5.l.length, y_5.l.flatMap encO⟩) (A := y_5.l.flatMap rdsO) 2 rfl) <| jF <| jA (jQ fo31_0 rfl) <| jK (jZ 3 (v := .slice y_5.a y_5.l.length y_5.c) rfl rfl ks rfl) ?_
    refine kN fun hst => ?_
    obtain ⟨hf_53m, hf_53x, hf_53s, hf_53l⟩ := fits_of hst (i := 0) rfl
    refine jA (PO.sliceVh (j := 1) km kj hf_53s rfl rfl (by omega)) <| jA (jQ fo31_0 rfl) ?_
    refine jH rfl (ja 3 (vs := [.slice y_5.a 1 y_5.c]) (cs' := [.slice y_5.a 1 y_5.c, str y_5.jt, iv y_5.js]) rfl rfl rfl rfl Tryz.sizeOf28 rfl rfl (lb rfl) rfl) ?_
    rintro _ _ rfl
    refine jE <| jm <| jB <| jC <| jF <| jK (jO 3 (vs := [.slice y_5.a 1 y_5.c, str y_5.jt, iv y_5.js]) rfl rfl ke kd rfl rfl) ?_
    refine jH rfl (ja 4 (vs := [.slice y_5.a 1 y_5.c, str y_5.jt, iv y_5.js]) (cs' := [.slice y_5.a 1 y_5.c, str y_5.jt, iv y_5.js]) rfl rfl rfl rfl kd rfl rfl (lb rfl) rfl) ?_
    rintro _ _ rfl
    refine jE <| jB <| jN <| ju (L' := [Res.row (.slice y_5.a 1 y_5.c) 60 3 1 ((y_5.l.take 1).flatMap encO), Res.rows (y_5.l.flatMap rdsO), cb qb qa qc ql qp_8 qs_9, bk b_7 31 [.slice y_5.a 1 y_5.c, str y_5.jt, iv y_5.js], bk b_1 31 [.slice y_5.a 1 y_5.c, str y_5.jt, iv y_5.js]]) (fun w hw => hw.clip (i := 0) rfl 1 y_5.c (by omega) (by have := hf_53m; omega) (Nat.le_refl _) (flat_front encO_len _ _)) <| ju (L' := [Res.rows ((y_5.l.take 1).flatMap rdsO), Res.rows (rdsO (y_5.l.getD 1 o0)), Res.rows ((y_5.l.drop (1 + 1)).flatMap rdsO), Res.row (.slice y_5.a 1 y_5.c) 60 3 1 ((y_5.l.take 1).flatMap encO), cb qb qa qc ql qp_8 qs_9, bk b_7 31 [.slice y_5.a 1 y_5.c, str y_5.jt, iv y_5.js], bk b_1 31 [.slice y_5.a 1 y_5.c, str y_5.jt, iv y_5.js]]) (fun w hw => hw.splitR 1 rfl (flatMap_at o0 (by omega))) ?_
    have ht1 : (y_5.l.take 1).length = 1 := by rw [List.length_take]; omega
    refine ju (L' := [Res.rows ((y_5.l.take 1).flatMap rdsO), Res.rows (rdsO (y_5.l.getD 1 o0)), Res.rows ((y_5.l.drop (1 + 1)).flatMap rdsO), Res.row (.slice y_5.a ((y_5.l.take 1).length) y_5.c) 60 3 ((y_5.l.take 1).length) ((y_5.l.take 1).flatMap encO), cb qb qa qc ql qp_8 qs_9, bk b_7 31 [.slice y_5.a 1 y_5.c, str y_5.jt, iv y_5.js], bk b_1 31 [.slice y_5.a 1 y_5.c, str y_5.jt, iv y_5.js]]) (fun w hw => hw.eqL (by rw [ht1])) <| ju (L' := [Res.rows (rdsOS y_5.a y_5.c (y_5.l.take 1)), Res.rows (rdsO (y_5.l.getD 1 o0)), Res.rows ((y_5.l.drop (1 + 1)).flatMap rdsO), cb qb qa qc ql qp_8 qs_9, bk b_7 31 [.slice y_5.a 1 y_5.c, str y_5.jt, iv y_5.js], bk b_1 31 [.slice y_5.a 1 y_5.c, str y_5.jt, iv y_5.js]]) (fun w hw => hw.consR (r := ⟨.slice y_5.a ((y_5.l.take 1).length) y_5.c, 60, 3, (y_5.l.take 1).length, (y_5.l.take 1).flatMap encO⟩) (A := (y_5.l.take 1).flatMap rdsO) [3, 0] rfl) <| kM (pick_perm [3, 0] (A := [cb qb qa qc ql qp_8 qs_9, Res.rows (rdsOS y_5.a y_5.c (y_5.l.take 1))]) (F := [Res.rows (rdsO (y_5.l.getD 1 o0)), Res.rows ((y_5.l.drop (1 + 1)).flatMap rdsO), bk b_7 31 [.slice y_5.a 1 y_5.c, str y_5.jt, iv y_5.js], bk b_1 31 [.slice y_5.a 1 y_5.c, str y_5.jt, iv y_5.js]]) rfl).symm <| jV (.inl rfl) rfl (kA (jO 5 (vs := [.slice y_5.a 1 y_5.c, str y_5.jt, iv y_5.js]) rfl rfl ke kd rfl rfl) ⟨_, rfl⟩) (tS 2 _) ?_
    exact ⟨qp_8, qs_9, (⟨y_5.a, y_5.c, y_5.l.take 1, y_5.jt, y_5.js⟩ : DX), by omega, hd_6.toDrawn.take, by simp only [ht1], rfl⟩
  refine jR (cB (dF h_52)) <| jT <| jm <| jB <| jC <| jF <| jK (jO 1 (vs := [.slice y_5.a y_5.l.length y_5.c, str y_5.jt, iv y_5.js]) rfl rfl ke kd rfl rfl) ?_
  refine jH rfl (ja 3 (vs := [.slice y_5.a y_5.l.length y_5.c, str y_5.jt, iv y_5.js]) (cs' := [.slice y_5.a y_5.l.length y_5.c, str y_5.jt, iv y_5.js]) rfl rfl rfl rfl kd rfl rfl (lb rfl) rfl) ?_
  rintro _ _ rfl
  refine jE <| jB <| jN <| kM (pick_perm [0, 1] (A := [cb qb qa qc ql qp_8 qs_9, Res.rows (rdsD y_5)]) (F := [bk b_7 31 [.slice y_5.a y_5.l.length y_5.c, str y_5.jt, iv y_5.js], bk b_1 31 [.slice y_5.a y_5.l.length y_5.c, str y_5.jt, iv y_5.js]]) rfl).symm <| jV (.inl rfl) rfl (kA (jO 3 (vs := [.slice y_5.a y_5.l.length y_5.c, str y_5.jt, iv y_5.js]) rfl rfl ke kd rfl rfl) ⟨_, rfl⟩) (tS 2 _) ?_
  exact ⟨qp_8, qs_9, y_5, by omega, hd_6.toDrawn.of rfl (by show y_5.jt.length ≤ _; first | omega | exact hd_6.j), rfl, rfl⟩

end Go.Proofs.YtjncpgcccgdeiaaGreatDoor

set_option linter.unusedSimpArgs false
set_option linter.unusedVariables false
set_option linter.unnecessarySimpa false
namespace Go.Proofs.YtjncpgcccgdeiaaGreatDoor
open Go Go.RowKit
section
variable {P : Program} {ops : Array Oper} {Q : Exit → Act → World → Prop} {n : Nat} {w0 : World} {D : List Nat} {L M : List Res} {e : Env} {z fuel : Nat} {listed : Array Bool}
end
section
variable {P : Program} {n : Nat} {e : Env} {d : Option Tmp} {ty : TypeId} {pos : String} {aft : Array Edge} {gd : Option (Nat × Bool)}
end
attribute [local irreducible] JL JC JQ JO LO PO JA JX Ct

theorem N_big (pa : Option Addr) (pc : Nat) (p : Str) :
    Ct Tryz.prog 24 [.slice pa p.length pc] [] (fun _ => True) (fun v A' => v = .bool (decide (1048576 < ((p.length : Nat) : Int))) ∧ A' = []) := by
  refine Ct.intro Tryz.func24 rfl Tryz.ntmps24 (lb rfl) fun w0 hpre => ?_
  refine jC <| jF <| jA (jG (v := .bool false) rfl) <| jE <| jB <| jC <| jF <| jA (jD (v := .slice pa p.length pc) rfl) <| jA (jr kr rfl) <| jA (kR rfl rfl) ?_
  refine jA (jG (v := .bool (decide (1048576 < ((p.length : Nat) : Int)))) rfl) <| jE <| jB <| jN <| jV (.inl rfl) rfl (jJ (v := .bool (decide (1048576 < ((p.length : Nat) : Int)))) rfl) (List.nil_sublist _) ?_
  exact ⟨rfl, rfl⟩

end Go.Proofs.YtjncpgcccgdeiaaGreatDoor

set_option linter.unusedSimpArgs false
set_option linter.unusedVariables false
set_option linter.unnecessarySimpa false
namespace Go.Proofs.YtjncpgcccgdeiaaGreatDoor
open Go Go.RowKit
theorem dec_fig {n : Int} (h : 0 ≤ n) : ∀ x ∈ dec n, 48 ≤ x.toNat ∧ x.toNat ≤ 57 := by
  intro x hx
  unfold dec Lib.itoa at hx
  rw [if_neg (by omega)] at hx
  exact digits_no _ _ (Nat.le_refl _) x hx
theorem dec_no10 {n : Int} (h : 0 ≤ n) : ∀ x ∈ dec n, x ≠ 10 := by
  intro x hx
  have := dec_fig h x hx
  rintro rfl
  revert this
  decide
theorem rows_no10 (l : List Cell) : ∀ x ∈ l.flatMap recRow, x ≠ 10 := by
  intro x hx
  obtain ⟨c, _, hc⟩ := List.mem_flatMap.1 hx
  simp only [recRow, List.append_assoc, List.mem_append, List.mem_singleton] at hc
  rcases hc with rfl | hc | rfl | hc
  · decide
  · exact (hexB_ne _ _ hc).2.2
  · decide
  · exact (hexB_ne _ _ hc).2.2
section
variable {seq : Int} {l : List Cell}
theorem rec_shape (h : recText seq l ≠ []) : 1 ≤ seq ∧ seq ≤ 100000 ∧ ∃ b, b = dec seq ++ l.flatMap recRow ∧ recText seq l = b ++ [32, 35] ++ dec ((byteSum b : Nat) : Int) ++ [10] := by
  unfold recText at h ⊢
  split at h
  · rename_i hw
    have hw2 := (show 1 ≤ seq ∧ seq ≤ 100000 by simpa only [within, Bool.and_eq_true, decide_eq_true_eq] using hw)
    rw [if_pos hw]
    obtain ⟨b, hb, he⟩ := recGo_some l (dec seq) h
    exact ⟨hw2.1, hw2.2, b, hb, he⟩
  · exact absurd rfl h
theorem rec_line (h : recText seq l ≠ []) : isLine (recText seq l) := by
  obtain ⟨h1, h2, b, hb, he⟩ := rec_shape h
  refine ⟨b ++ [32, 35] ++ dec ((byteSum b : Nat) : Int), fun x hx => ?_, he⟩
  simp only [List.append_assoc, List.mem_append, List.mem_cons, List.not_mem_nil, or_false] at hx
  rw [hb] at hx
  simp only [List.mem_append] at hx
  rcases hx with (hx | hx) | (rfl | rfl) | hx
  · exact dec_no10 (by omega) x hx
  · exact rows_no10 l x hx
  · decide
  · decide
  · exact dec_no10 (Int.natCast_nonneg _) x hx
theorem recTextL (seq : Int) (l : List Cell) : (recText seq l).length ≤ 4000 := by
  have hg : ∀ (l : List Cell) (b : Str), (recGo b l).length ≤ 4000 := by
    intro l
    induction l with
    | nil =>
      intro b
      unfold recGo recEnd
      split
      · exact Nat.zero_le _
      · omega
    | cons c l ih =>
      intro b
      unfold recGo
      split
      · exact Nat.zero_le _
      · exact ih _
  unfold recText
  split
  · exact hg _ _
  · exact Nat.zero_le _
theorem readWord_rec {c : Cell} (h1 : c.1.length ≤ 20000) (h2 : c.2.length ≤ 20000) : readWord (hexB c.1 ++ [61] ++ hexB c.2) = c := by
  have hu : ∀ r : Str, r.length ≤ 20000 → unhex (hexB r) = (r, true) := fun r hr => by
    unfold unhex
    rw [if_neg (by rw [hexB_len]; omega), unhexL_hexB]
  have hc : cutB 61 (hexB c.1 ++ [61] ++ hexB c.2) = (hexB c.1, hexB c.2) := by
    rw [List.append_assoc, List.singleton_append]
    exact cutB_app _ fun x hx => (hexB_ne _ _ hx).2.1
  rw [readWord, hc, hu _ h1, hu _ h2]
theorem rec_read (hs : readDec (dec seq) = (seq, true)) (h : recText seq l ≠ []) (hl : ∀ c ∈ l, c.1.length ≤ 20000 ∧ c.2.length ≤ 20000) : readI (recText seq l) = (seq, l, true) := by
  have hm := mids_rec rfl h
  have hlen := recTextL seq l
  obtain ⟨h1, h2, b, hb, he⟩ := rec_shape h
  have hsp : (splitB 32 (recText seq l)).getD 0 [] = dec seq := by
    have e : recText seq l = dec seq ++ l.flatMap recRow ++ 32 :: (35 :: dec ((byteSum b : Nat) : Int) ++ [10]) := by
      rw [he, hb]
      simp only [List.append_assoc, List.cons_append, List.nil_append]
    rw [e, split_rows l (dec seq) _ (dec_no32 (by omega)) (fun x hx => by
      simp only [List.cons_append, List.mem_cons, List.mem_append, List.not_mem_nil, or_false] at hx
      rcases hx with rfl | hx | rfl
      · decide
      · exact dec_no32 (Int.natCast_nonneg _) x hx
      · decide)]
    rfl
  have hw : (midsOf (splitB 32 (recText seq l))).map readWord = l := by
    rw [hm, List.map_map]
    have : ∀ c ∈ l, (readWord ∘ fun c : Cell => hexB c.1 ++ [61] ++ hexB c.2) c = id c := fun c hc => readWord_rec (hl c hc).1 (hl c hc).2
    rw [List.map_congr_left this, List.map_id]
  unfold readI
  rw [if_neg (by omega), hsp, hs, hw, if_neg]
  rintro (h3 | h3)
  · exact h h3
  · exact h3 rfl
end
theorem one_ne {seq : Int} {k v : Str} (h1 : 1 ≤ seq) (h2 : seq ≤ 100000) (hk : keyOk k = true) (hv : v.length ≤ 60) : recText seq [(k, v)] ≠ [] := by
  have hd := dec_len (n := seq) (by omega) (by omega)
  have hk2 := keyOk_len hk
  have hx := hexB_len k
  have hy := hexB_len v
  unfold recText
  rw [if_pos (within_of h1 h2), recGo, if_neg]
  · rw [recGo, recEnd]
    have hs := byteSum_lo (dec seq ++ recRow (k, v))
    have hd2 := dec_len (n := ((byteSum (dec seq ++ recRow (k, v)) : Nat) : Int)) (by omega) (by omega)
    rw [if_neg]
    · simp
    · simp only [recRow, List.length_append, List.length_cons, List.length_nil] at *
      omega
  · simp only [recBad, hk, Bool.not_true, Bool.false_or, Bool.or_eq_true, decide_eq_true_eq]
    omega
/- journals of one and of two records -/
section
variable {l1 l2 : List Cell} {a b : Str}
theorem lines_one (ha : isLine a) : linesOf a = [a] := by
  have := lines_flat [a] [] (fun x hx => by rw [List.mem_singleton] at hx; rw [hx]; exact ha) (fun _ h => by cases h)
  simpa using this
theorem recs_1 (ha : isLine a) (hr : readI a = (1, l1, true)) : recsOf a 1 = ([l1], a.length) := by
  rw [recsOf, if_pos (by decide), lines_one ha]
  simp [recsG, hr]
end
/-- A new disk with one record, folded. -/
theorem one_begun {k v r : Str} {j : Int} (hk : keyOk k = true) (hv0 : v ≠ []) (hv : v.length ≤ 60) (hr : r = recText 1 [(k, v)]) (hj : 0 ≤ j) (hj2 : j ≤ ((r.length : Nat) : Int)) :
    (DD.foldB ⟨[⟨0, [], true⟩, ⟨0, [], false⟩], r, j⟩) = (⟨[⟨0, [], true⟩, ⟨1, [(k, v)], false⟩], r, ((r.length : Nat) : Int)⟩, true) ∧ isLine r ∧ readI r = (1, [(k, v)], true) ∧ 0 < r.length ∧ r.length ≤ 4000 ∧ storeOk [(k, v)] = true := by
  have hk2 := keyOk_len hk
  have hne := one_ne (seq := 1) (by decide) (by decide) hk hv
  have hli := rec_line hne
  have hrd := rec_read (seq := 1) (l := [(k, v)]) (by decide +kernel) hne (fun c hc => by rw [List.mem_singleton] at hc; subst hc; exact ⟨by show k.length ≤ _; omega, by show v.length ≤ _; omega⟩)
  have hlen := recTextL 1 [(k, v)]
  rw [← hr] at hne hli hrd hlen
  have hpos : 0 < r.length := List.length_pos_iff.2 hne
  have hso : storeOk [(k, v)] = true := by
    have hvp : 0 < v.length := List.length_pos_iff.2 hv0
    have hg : storeG [(k, v)] 0 = true := by
      simp only [storeG, List.getD_cons_zero, hk, Bool.true_and, Bool.and_eq_true]
      exact ⟨within_of (by omega) (by omega), by simp⟩
    simp only [storeOk, Bool.and_eq_true, decide_eq_true_eq]
    refine ⟨?_, by simp⟩
    show rall 1 _ = true
    simp [rall, List.range_succ, hg]
  have hok : diskOk ⟨[⟨0, [], true⟩, ⟨0, [], false⟩], r, j⟩ = true := diskOk2.2 ⟨.inl rfl, by decide, rfl, jour_mk (by omega) hj hj2⟩
  have hb : bst ⟨0, [], true⟩ ⟨0, [], false⟩ = ⟨0, [], true⟩ := rfl
  have hrec := recov2 hok
  rw [hb] at hrec
  have hrs := recs_1 hli hrd
  have hput : putKey [] k v = [(k, v)] := by
    rw [putKey_ins hk (by omega) hv0]
    simp [insertAt, findAt]
  have hrec2 : DD.recov ⟨[⟨0, [], true⟩, ⟨0, [], false⟩], r, j⟩ = ([(k, v)], 1) := by
    rw [hrec]
    show (applyAll [] (recsOf r (0 + 1)).1, (0 : Int) + (((recsOf r (0 + 1)).1.length : Nat) : Int)) = _
    rw [show (0 : Int) + 1 = 1 from rfl, hrs]
    simp [applyAll, applyR, hput]
  have hm : mostOf ⟨[⟨0, [], true⟩, ⟨0, [], false⟩], r, j⟩ = 0 := by rw [most2 (.inl rfl), hb]
  have hq : bestD ⟨[⟨0, [], true⟩, ⟨0, [], false⟩], r, j⟩ = 0 := by rw [bestD2]; simp
  refine ⟨?_, hli, hrd, hpos, hlen, hso⟩
  rw [foldB_yes ⟨hok, by rw [hrec2]; show ¬ (99999 : Int) < 1; decide, by rw [hrec2, hm]; show ¬ (1 : Int) = 0; decide⟩, hrec2, hq, recD, hm]
  show ((⟨[⟨0, [], true⟩, ⟨1, [(k, v)], false⟩], r.take (recsOf r (0 + 1)).2, (((recsOf r (0 + 1)).2 : Nat) : Int)⟩ : DD), true) = _
  rw [show (0 : Int) + 1 = 1 from rfl, hrs]
  simp
theorem fold_end {k v t : Str} {j : Int} (hso : storeOk [(k, v)] = true) (hj : jourOk t j = true) : DD.foldE ⟨[⟨0, [], true⟩, ⟨1, [(k, v)], false⟩], t, j⟩ = (⟨[⟨0, [], true⟩, ⟨1, [(k, v)], true⟩], t, j⟩, true) := by
  have hok : diskOk ⟨[⟨0, [], true⟩, ⟨1, [(k, v)], false⟩], t, j⟩ = true := diskOk2.2 ⟨.inl rfl, by decide, rfl, hj⟩
  have ho : othD ⟨[⟨0, [], true⟩, ⟨1, [(k, v)], false⟩], t, j⟩ = ⟨1, [(k, v)], false⟩ := othD2.2 rfl rfl
  have hm : mostOf ⟨[⟨0, [], true⟩, ⟨1, [(k, v)], false⟩], t, j⟩ = 0 := by rw [most2 (.inl rfl)]; rfl
  have hq : bestD ⟨[⟨0, [], true⟩, ⟨1, [(k, v)], false⟩], t, j⟩ = 0 := by rw [bestD2]; simp
  rw [foldE_yes ⟨hok, by rw [ho], by rw [ho, hm]; show (0 : Int) < 1; decide, by rw [ho]; show within 0 1 99999 = true; decide, by rw [ho]; exact hso⟩, ho, hq]
  rfl
theorem one_folded {k v r : Str} {j : Int} (hk : keyOk k = true) (hv0 : v ≠ []) (hv : v.length ≤ 60) (hr : r = recText 1 [(k, v)]) (hj : 0 ≤ j) (hj2 : j ≤ ((r.length : Nat) : Int)) :
    (DD.folded ⟨[⟨0, [], true⟩, ⟨0, [], false⟩], r, j⟩).2 = true ∧ (DD.folded ⟨[⟨0, [], true⟩, ⟨0, [], false⟩], r, j⟩).1.jt = [] ∧ (DD.folded ⟨[⟨0, [], true⟩, ⟨0, [], false⟩], r, j⟩).1.slots = [⟨0, [], true⟩, ⟨1, [(k, v)], true⟩] := by
  obtain ⟨h1, h2, h3, h4, h5, h6⟩ := one_begun hk hv0 hv hr hj hj2
  have h7 := fold_end (j := ((r.length : Nat) : Int)) (t := r) h6 (jour_mk (by omega) (by omega) (Int.le_refl _))
  have hy : (DD.folded ⟨[⟨0, [], true⟩, ⟨0, [], false⟩], r, j⟩).2 = true := by rw [folded_snd, h1, h7]; rfl
  refine ⟨hy, (fold_twice hy).1, ?_⟩
  rw [folded_yes ⟨by rw [h1], by rw [h1, h7]⟩, h1, h7, trim_slots]
theorem folded_okz {d : DD} (h : d.okz) : d.folded.1.okz := by
  by_cases hk : d.foldB.2 = true ∧ (d.foldB.1.foldE).2 = true
  · rw [folded_yes hk]; exact trim_okz (foldE_okz (foldB_okz h))
  · rw [folded_no hk]; exact h
end Go.Proofs.YtjncpgcccgdeiaaGreatDoor

set_option linter.unusedSimpArgs false
set_option linter.unusedVariables false
set_option linter.unnecessarySimpa false
namespace Go.Proofs.YtjncpgcccgdeiaaGreatDoor
open Go Go.RowKit
attribute [local irreducible] JL JC JQ JO LO PO JA JX Ct

set_option maxRecDepth 4000 in
set_option maxHeartbeats 1000000 in
theorem D_dFolded (pa : Option Addr) (pc : Nat) (p : Str) (hp : p.length ≤ 1048576) :
    Ct Tryz.prog 37 [.slice pa p.length pc] [] (fun w => Sees w (.slice pa p.length pc) 1 p.length (p.map encB)) (fun v A' => ∃ y, Drawn y ∧ v = .agg #[.slice y.a y.l.length y.c, str y.jt, .int .i64 y.js] ∧ A' = [.rows (rdsD y)]) := by
  refine Ct.intro Tryz.func37 rfl Tryz.ntmps37 (lb rfl) fun w0 hpre => ?_
  have hs_pa : Sees w0 _ _ _ _ := hpre
  refine jC <| jF ?_
  refine jH rfl (jo (z := .agg #[.slice none 0 0, str [], iv 0]) (cs := [.slice none 0 0, str [], iv 0]) ko rfl) ?_
  rintro _ _ ⟨b_1, rfl, rfl⟩
  refine jE <| jB <| jC <| jF <| jA (jD (v := .slice pa p.length pc) rfl) ?_
  refine jH rfl (jI [] Tryz.call72 rfl (D_new pa pc p (by omega)) rfl (fun w hw => hw.seeOut_ hs_pa nM)) ?_
  rintro _ _ ⟨_, ⟨c_2, qs_3, -, rfl, rfl⟩, rfl⟩
  refine jH rfl (jI [0] Tryz.call88 rfl (D_anyDisk c_2 pa pc p 0 qs_3 (by omega) (by omega)) rfl (fun w hw => ⟨hw.seeOut_ hs_pa nM, hw.apart hs_pa nM (by simp)⟩)) ?_
  rintro _ _ ⟨_, ⟨qp_5, qs_6, y_8, fq_7, hd_9, rfl, rfl⟩, rfl⟩
  refine jH rfl (ja 2 (vs := [.slice y_8.a y_8.l.length y_8.c, str y_8.jt, iv y_8.js]) (cs' := [.slice y_8.a y_8.l.length y_8.c, str y_8.jt, iv y_8.js]) rfl rfl rfl rfl kd rfl rfl (lb rfl) rfl) ?_
  rintro _ _ rfl
  refine jE <| jB <| jN <| kM (pick_perm [1] (A := [Res.rows (rdsD y_8)]) (F := [cb c_2 pa pc p qp_5 qs_6, bk b_1 31 [.slice y_8.a y_8.l.length y_8.c, str y_8.jt, iv y_8.js]]) rfl).symm <| jV (.inl rfl) rfl (kA (jO 2 (vs := [.slice y_8.a y_8.l.length y_8.c, str y_8.jt, iv y_8.js]) rfl rfl ke kd rfl rfl) ⟨_, rfl⟩) (tS 1 _) ?_
  exact ⟨y_8, hd_9, rfl, rfl⟩

end Go.Proofs.YtjncpgcccgdeiaaGreatDoor
