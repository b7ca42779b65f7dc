/-
Texts of the walk, joined: what each one proves stands at its theorems.
-/
import Derived.Test.YthlfmbbaomdciaaGreatDoorB7DatTy
set_option linter.unusedSimpArgs false
set_option linter.unusedVariables false
set_option linter.unnecessarySimpa false
namespace Go.Proofs.YthlfmbbaomdciaaGreatDoor
open Go Go.RowKit
section
variable {P : Program} {ops : Array Oper} {Q : Exit → Act → World → Prop} {n : Nat} {w0 w : World} {D : List Nat} {L : List Res} {e : Env}
variable {d : Option Tmp} {ty : TypeId} {pos : String} {aft : Array Edge} {gd : Option (Nat × Bool)}

/-- A row told by its front, its room told smaller. -/
theorem St.clip (hw : St w0 D L w) {i el k m c : Nat} {a : Option Addr} {cs cs' : List Value} (hL : L[i]? = some (.row (.slice a m c) el k m cs)) (q z : Nat) (hq : q ≤ m) (hqz : q ≤ z) (hz : z ≤ c) (hc : cs.take (q * k) = cs') :
   St w0 D (L.set i (.row (.slice a q z) el k q cs')) w := by
 subst hc
 have hrow := hw.get hL
 have hcl := hrow.1
 have e0 : q * k ≤ m * k := Nat.mul_le_mul_right k hq
 have e1 : z * k ≤ c * k := Nat.mul_le_mul_right k hz
 refine hw.turn1 hL rfl rfl rfl (Nat.le_refl _) (fun _ _ _ => rfl) ?_ (by cases a <;> simp [Res.ids, Value.ownBlock]) (fun q' hq' => .inl (by
   cases a with
   | none => simp [Res.ids, Value.ownBlock] at hq'
   | some g => simpa [Res.ids, Value.ownBlock] using hq'))
 rcases hrow.2 with ⟨hvv, hm0⟩ | ⟨g, cap, cur, hvv, hg0, hg, h2, h3, h4, h5⟩
 · simp only [Value.slice.injEq] at hvv
   obtain ⟨rfl, rfl, rfl⟩ := hvv
   have : q = 0 := by omega
   subst this
   have : z = 0 := by omega
   subst this
   refine ⟨?_, .inl ⟨rfl, rfl⟩⟩
   simp
 · simp only [Value.slice.injEq] at hvv
   obtain ⟨rfl, _, rfl⟩ := hvv
   refine ⟨by rw [List.length_take, hcl]; omega, .inr ⟨g, z, cur, rfl, hg0, hg, hqz, by omega, by omega, ?_⟩⟩
   rw [← h5, List.take_take, Nat.min_eq_left e0]
end
theorem bro_le (x : Int) (y : Nat) : bro x y ≤ y := Nat.min_le_right _ _
section
variable {P : Program} {n : Nat} {e : Env} {d : Option Tmp} {ty : TypeId} {pos : String} {aft : Array Edge} {gd : Option (Nat × Bool)}
theorem PO.sliceVmD {x hi mx : Operand} {a : Option Addr} {m c j z k : Nat} {q q' : IntKind} {t el : TypeId} (ht : P.underlying t = some (.slice el)) (hs : ∀ w, (sizeOf el).run P w = .ok k w) (ha : a.bind (·.spot) = none)
   (hx : rd n e x = .slice a m c) (hh : rd n e hi = .int q j) (hm : rd n e mx = .int q' z) (h1 : j ≤ z) (h2 : z ≤ c) : PO P n e ⟨d, .slice t x none (some hi) (some mx), ty, pos, aft, gd⟩ (.slice a j z) := fun w => by
 have hsub := sub_add (k := k) (c := z) (lo := 0) ha
 rw [sub_zero ha] at hsub
 have hsub' : (if z = 0 then a else a.map (·.add 0)) = a := by rw [Nat.zero_mul] at hsub; exact hsub
 simp [execOp, run_sliceAt_slice _ _ _ _ _ _ (elem_of ht), Instr.slice, run_underlying ht, hx, hh, hm, Instr.sliceBounds, Instr.sliceBound, asIntOf, hs, h1, h2, hsub']
theorem PO.min2D {x y : Operand} {a b c : Int} {ts : Array TypeId} (hx : rd n e x = .int .i64 a) (hy : rd n e y = .int .i64 b) (hc : min a b = c) : PO P n e ⟨d, .call ⟨.builtin .min, #[x, y], ts⟩, ty, pos, aft, gd⟩ (.int .i64 c) := fun w => by
 subst hc
 simp [execOp, resolve, invoke, builtin, hx, hy, Lib.run_min_ints]
theorem PO.max2D {x y : Operand} {a b c : Int} {ts : Array TypeId} (hx : rd n e x = .int .i64 a) (hy : rd n e y = .int .i64 b) (hc : max a b = c) : PO P n e ⟨d, .call ⟨.builtin .max, #[x, y], ts⟩, ty, pos, aft, gd⟩ (.int .i64 c) := fun w => by
 subst hc
 simp [execOp, resolve, invoke, builtin, hx, hy, Lib.run_max_ints]
theorem PO.castVD {o : Oper} {v v' : Value} (h : PO P n e o v) (hv : v = v') : PO P n e o v' := hv ▸ h
end
end Go.Proofs.YthlfmbbaomdciaaGreatDoor
set_option maxHeartbeats 4000000
set_option maxRecDepth 4000
namespace Go.Proofs.YthlfmbbaomdciaaGreatDoor
open Go Go.RowKit
attribute [local irreducible] JL JC JQ JO LO PO JA JX Ct
theorem Y_within (n lo hi : Int) :
   Ct Tryz.prog 109 [.int .i64 n, .int .i64 lo, .int .i64 hi] [] (fun _ => True) (fun v A' => v = .bool (within lo n hi) ∧ A' = []) := by
 refine Ct.intro Tryz.func109 rfl Tryz.ntmps109 (lb rfl) fun w0 hpre => ?_
 refine go ?_
 by_cases h_1 : lo ≤ n
 · refine go ?_
   refine jE (.inl rfl) rfl (jC (v := .bool (decide (n ≤ hi))) rfl) (List.nil_sublist _) ?_
   refine ⟨?_, rfl⟩
   unfold within
   simp_all <;> omega
 refine go ?_
 refine jE (.inl rfl) rfl (jC (v := .bool false) rfl) (List.nil_sublist _) ?_
 refine ⟨?_, rfl⟩
 unfold within
 simp_all <;> omega

theorem Y_implbro (x : Int) (y : Nat) :
   Ct Tryz.prog 111 [.int .i64 x, .int .i64 0, .int .i64 ((y : Nat) : Int)] [] (fun _ => True) (fun v A' => v = .int .i64 ((bro x y : Nat) : Int) ∧ A' = []) := by
 refine Ct.intro Tryz.func111 rfl Tryz.ntmps111 (lb rfl) fun w0 hpre => ?_
 refine go ?_
 refine jK (PO.min2D (c := min x ((y : Nat) : Int)) rfl rfl rfl) <| jK (PO.max2D (c := max 0 (min x ((y : Nat) : Int))) rfl rfl rfl) ?_
 refine go ?_
 refine jE (.inl rfl) rfl (jC (v := iv (max 0 (min x ((y : Nat) : Int)))) rfl) (List.nil_sublist _) ?_
 refine ⟨?_, rfl⟩
 exact congrArg (Value.int .i64) (by unfold bro; first | omega | (simp only [Int.min_def, Int.max_def]; omega) | grind)
end Go.Proofs.YthlfmbbaomdciaaGreatDoor
namespace Go.Proofs.YthlfmbbaomdciaaGreatDoor
open Go Go.RowKit
theorem within_true {lo n hi : Int} (h : within lo n hi = true) : lo ≤ n ∧ n ≤ hi := by simpa only [within, Bool.and_eq_true, decide_eq_true_eq] using h
theorem within_false {lo n hi : Int} (h : within lo n hi = false) : ¬ (lo ≤ n ∧ n ≤ hi) := fun hh => by rw [within, decide_eq_true hh.1, decide_eq_true hh.2] at h; cases h
theorem len_front {α : Type} {l : List α} {n : Nat} (h : n ≤ l.length) : (l.take n).length = n := by rw [List.length_take]; omega
theorem front_flat {α : Type} {enc : α → List Value} {k : Nat} (hk : ∀ x, (enc x).length = k) {l : List α} {n : Nat} (h : n ≤ l.length) : (l.flatMap enc).take ((l.take n).length * k) = (l.take n).flatMap enc := by rw [len_front h, flat_takeN hk]
theorem front_map {α : Type} {f : α → Value} {l : List α} {n : Nat} (h : n ≤ l.length) : (l.map f).take ((l.take n).length * 1) = (l.take n).map f := by rw [len_front h, Nat.mul_one, List.map_take]
end Go.Proofs.YthlfmbbaomdciaaGreatDoor
namespace Go.Proofs.YthlfmbbaomdciaaGreatDoor
open Go Go.RowKit
attribute [local irreducible] JL JC JQ JO LO PO JA JX Ct
set_option maxRecDepth 4000 in
theorem Y_implTxMark (p : TX) (hl : p.t.lim 1000000000) :
   Ct Tryz.prog 28 [.agg #[.int .i64 p.t.id, .int .i64 p.t.age, .int .i64 p.t.proc, .int .i64 p.t.began, .slice p.x.a0 p.t.calls.length p.x.c0, .slice p.x.a1 p.t.ans.length p.x.c1, .slice p.x.a2 p.t.rd.length p.x.c2, .slice p.x.a3 p.t.wr.length p.x.c3, .slice p.x.a4 p.t.marks.length p.x.c4, .int .i64 p.t.state]] [] (fun w => SeesA w (rdsX p)) (fun v A' => ∃ z : TX, z.t = p.t.mark.1 ∧ v = .tuple #[.agg #[.int .i64 z.t.id, .int .i64 z.t.age, .int .i64 z.t.proc, .int .i64 z.t.began, .slice z.x.a0 z.t.calls.length z.x.c0, .slice z.x.a1 z.t.ans.length z.x.c1, .slice z.x.a2 z.t.rd.length z.x.c2, .slice z.x.a3 z.t.wr.length z.x.c3, .slice z.x.a4 z.t.marks.length z.x.c4, .int .i64 z.t.state], .int .i64 p.t.mark.2] ∧ A' = [.rows (rdsX z)]) := by
 refine Ct.intro Tryz.func28 rfl Tryz.ntmps28 (lb rfl) fun w0 hpre => ?_
 obtain ⟨hs_1, hs_2, hs_3, hs_4, hs_5⟩ := seesX hpre
 have hlp := hl
 obtain ⟨hb_6, hb_7, hb_8, hb_9, hb_10⟩ := hl
 refine go ?_
 refine jM (xc p) fun b_11 => ?_
 refine jG xzc fun b_12 => ?_
 refine go ?_
 refine jA [] (Z_implTxclone p hlp) (hpre := fun w hw => hw.seeOutA hpre nMA) ?_
 rintro _ _ ⟨y_13, hy_14, rfl, rfl⟩
 refine jG xzc fun b_15 => ?_
 refine jD 0 (xc y_13) ?_
 refine go ?_
 by_cases h_16 : p.t.state = 1
 · refine go ?_
   by_cases h_17 : 4 ≤ ((p.t.marks.length : Nat) : Int)
   · refine go ?_
     refine jD 2 (xc y_13) ?_
     refine go ?_
     refine ju (pick_perm [1] (A := [Res.rows (rdsX y_13)]) (F := [bk b_15 35 (xc y_13), bk b_12 35 (xc y_13), bk b_11 35 (xc p)]) rfl).symm ?_
     refine ji (.inl rfl) rfl (js (jl 2 (vs := (xc y_13)) rfl rfl kT kQ rfl rfl) ⟨_, rfl⟩) (jC (v := iv 0) rfl) (tS 1 _) ?_
     have hm : p.t.mark = (p.t, 0) := if_neg (by omega)
     exact ⟨y_13, by rw [hm]; exact hy_14, by rw [hm], rfl⟩
   refine JC.condF (cB (dF h_17)) <| JC.skip <| jT <| jc <| JC.ghost (L' := [Res.row (.slice y_13.x.a0 y_13.t.calls.length y_13.x.c0) 43 6 y_13.t.calls.length (y_13.t.calls.flatMap encK), Res.row (.slice y_13.x.a1 y_13.t.ans.length y_13.x.c1) 39 3 y_13.t.ans.length (y_13.t.ans.flatMap encA), rS y_13.x.a2 y_13.x.c2 y_13.t.rd, rS y_13.x.a3 y_13.x.c3 y_13.t.wr, rI y_13.x.a4 y_13.x.c4 y_13.t.marks, bk b_15 35 (xc y_13), bk b_12 35 xzc, bk b_11 35 (xc p)]) (fun w hw => hw.openR 1 rfl) ?_
   have hst : y_13.t.state = p.t.state := congrArg TD.state hy_14
   have hml : y_13.t.marks.length = p.t.marks.length := by rw [hy_14]
   refine go ?_
   refine jF rfl (jR (ps := [(0, nv p.t.calls.length)]) (cur := #[nv p.t.calls.length]) kL kS kZ rfl (by kernel_rfl) (by decide) (by decide)) ?_
   rintro _ _ ⟨a_18, rfl, rfl⟩
   refine jF rfl (jX 5 (q := 1) (news := ([((p.t.calls.length : Nat) : Int)] : List Int).map (Value.int .i64)) (n' := (y_13.t.marks ++ ([((p.t.calls.length : Nat) : Int)] : List Int)).length) (cs' := (y_13.t.marks ++ ([((p.t.calls.length : Nat) : Int)] : List Int)).map (Value.int .i64)) rfl kL kL kl rfl (by' := 8) rfl rfl rfl rfl rfl (fun w hw => Src.sees (hw.see (i := 0) rfl) (oneI _)) (by (try simp only [LE]); omega) (by (try simp only [LE]); omega) (by simp only [List.length_append, List.length_take, List.length_drop, List.length_cons, List.length_nil] <;> first | rfl | omega) (by simp only [List.map_append])) ?_
   rintro _ _ ⟨a_19, c_20, rfl, rfl⟩
   refine go ?_
   refine jD 6 [iv y_13.t.id, iv y_13.t.age, iv y_13.t.proc, iv y_13.t.began, .slice y_13.x.a0 y_13.t.calls.length y_13.x.c0, .slice y_13.x.a1 y_13.t.ans.length y_13.x.c1, .slice y_13.x.a2 y_13.t.rd.length y_13.x.c2, .slice y_13.x.a3 y_13.t.wr.length y_13.x.c3, .slice a_19 ((y_13.t.marks ++ ([((p.t.calls.length : Nat) : Int)] : List Int)).length) c_20, iv y_13.t.state] ?_
   refine go ?_
   refine jH [0, 0, 0, 0, 0, 0, 0, 1] 5 ?_
   refine go ?_
   refine jB (i := 4) ?_
   refine jp 7 [iv y_13.t.id, iv y_13.t.age, iv y_13.t.proc, iv y_13.t.began, .slice y_13.x.a0 y_13.t.calls.length y_13.x.c0, .slice y_13.x.a1 y_13.t.ans.length y_13.x.c1, .slice y_13.x.a2 y_13.t.rd.length y_13.x.c2, .slice y_13.x.a3 y_13.t.wr.length y_13.x.c3, .slice a_19 ((y_13.t.marks ++ ([((p.t.calls.length : Nat) : Int)] : List Int)).length) c_20, iv y_13.t.state] ?_
   refine gQ ?_
   refine JA.done (by kernel_rfl) <| jT <| jz <| cloJ (rdsX (⟨⟨y_13.x.a0, y_13.x.c0, y_13.x.a1, y_13.x.c1, y_13.x.a2, y_13.x.c2, y_13.x.a3, y_13.x.c3, a_19, c_20⟩, ⟨y_13.t.id, y_13.t.age, y_13.t.proc, y_13.t.began, y_13.t.calls, y_13.t.ans, y_13.t.rd, y_13.t.wr, (y_13.t.marks ++ ([((p.t.calls.length : Nat) : Int)] : List Int)), y_13.t.state⟩⟩ : TX)) [1, 1, 1, 1, 1] <| ji (.inl rfl) rfl (js (jl 3 (vs := [iv y_13.t.id, iv y_13.t.age, iv y_13.t.proc, iv y_13.t.began, .slice y_13.x.a0 y_13.t.calls.length y_13.x.c0, .slice y_13.x.a1 y_13.t.ans.length y_13.x.c1, .slice y_13.x.a2 y_13.t.rd.length y_13.x.c2, .slice y_13.x.a3 y_13.t.wr.length y_13.x.c3, .slice a_19 ((y_13.t.marks ++ ([((p.t.calls.length : Nat) : Int)] : List Int)).length) c_20, iv y_13.t.state]) rfl rfl kT kQ rfl rfl) ⟨_, rfl⟩) (jC (v := iv (((y_13.t.marks ++ ([((p.t.calls.length : Nat) : Int)] : List Int)).length : Nat) : Int)) rfl) (tS 1 _) ?_
   have hm : p.t.mark = ((⟨⟨y_13.x.a0, y_13.x.c0, y_13.x.a1, y_13.x.c1, y_13.x.a2, y_13.x.c2, y_13.x.a3, y_13.x.c3, a_19, c_20⟩, ⟨y_13.t.id, y_13.t.age, y_13.t.proc, y_13.t.began, y_13.t.calls, y_13.t.ans, y_13.t.rd, y_13.t.wr, (y_13.t.marks ++ ([((p.t.calls.length : Nat) : Int)] : List Int)), y_13.t.state⟩⟩ : TX).t, ((p.t.marks.length + 1 : Nat) : Int)) := by rw [← hy_14]; unfold TD.mark; rw [if_pos (by omega)]
   exact ⟨(⟨⟨y_13.x.a0, y_13.x.c0, y_13.x.a1, y_13.x.c1, y_13.x.a2, y_13.x.c2, y_13.x.a3, y_13.x.c3, a_19, c_20⟩, ⟨y_13.t.id, y_13.t.age, y_13.t.proc, y_13.t.began, y_13.t.calls, y_13.t.ans, y_13.t.rd, y_13.t.wr, (y_13.t.marks ++ ([((p.t.calls.length : Nat) : Int)] : List Int)), y_13.t.state⟩⟩ : TX), by rw [hm], by rw [hm]; (first | rfl | (simp only [List.length_append, List.length_cons, List.length_nil, hml]; done)), rfl⟩
 refine go ?_
 refine jD 2 (xc y_13) ?_
 refine go ?_
 refine ju (pick_perm [1] (A := [Res.rows (rdsX y_13)]) (F := [bk b_15 35 (xc y_13), bk b_12 35 (xc y_13), bk b_11 35 (xc p)]) rfl).symm ?_
 refine ji (.inl rfl) rfl (js (jl 2 (vs := (xc y_13)) rfl rfl kT kQ rfl rfl) ⟨_, rfl⟩) (jC (v := iv 0) rfl) (tS 1 _) ?_
 have hm : p.t.mark = (p.t, 0) := if_neg (by omega)
 exact ⟨y_13, by rw [hm]; exact hy_14, by rw [hm], rfl⟩

theorem Y_clipK (a : Option Addr) (ha : a.bind (·.spot) = none) (m c : Nat) (hm : m ≤ c) (hn : m ≤ 1000000000000) :
   Ct Tryz.prog 110 [.slice a m c] [] (fun _ => True) (fun v A' => v = .slice a m m ∧ A' = []) := by
 refine Ct.intro Tryz.func110 rfl Tryz.ntmps110 (lb rfl) fun w0 hpre => ?_
 refine go ?_
 refine jK (PO.sliceVmD (j := m) (z := m) kf kX ha rfl rfl rfl (by omega) (by omega)) ?_
 refine go ?_
 exact jJ [] ⟨rfl, rfl⟩

theorem Y_clipA (a : Option Addr) (ha : a.bind (·.spot) = none) (m c : Nat) (hm : m ≤ c) (hn : m ≤ 1000000000000) :
   Ct Tryz.prog 112 [.slice a m c] [] (fun _ => True) (fun v A' => v = .slice a m m ∧ A' = []) := by
 refine Ct.intro Tryz.func112 rfl Tryz.ntmps112 (lb rfl) fun w0 hpre => ?_
 refine go ?_
 refine jK (PO.sliceVmD (j := m) (z := m) ke kY ha rfl rfl rfl (by omega) (by omega)) ?_
 refine go ?_
 exact jJ [] ⟨rfl, rfl⟩

theorem Y_clipI (a : Option Addr) (ha : a.bind (·.spot) = none) (m c : Nat) (hm : m ≤ c) (hn : m ≤ 1000000000000) :
   Ct Tryz.prog 113 [.slice a m c] [] (fun _ => True) (fun v A' => v = .slice a m m ∧ A' = []) := by
 refine Ct.intro Tryz.func113 rfl Tryz.ntmps113 (lb rfl) fun w0 hpre => ?_
 refine go ?_
 refine jK (PO.sliceVmD (j := m) (z := m) kL kS ha rfl rfl rfl (by omega) (by omega)) ?_
 refine go ?_
 exact jJ [] ⟨rfl, rfl⟩

set_option maxRecDepth 4000 in
theorem Y_implTxBack (p : TX) (hl : p.t.lim 1000000000) (q : Int) (h_q : -9223372036854775808 ≤ q ∧ q ≤ 9223372036854775807) :
   Ct Tryz.prog 29 [.agg #[.int .i64 p.t.id, .int .i64 p.t.age, .int .i64 p.t.proc, .int .i64 p.t.began, .slice p.x.a0 p.t.calls.length p.x.c0, .slice p.x.a1 p.t.ans.length p.x.c1, .slice p.x.a2 p.t.rd.length p.x.c2, .slice p.x.a3 p.t.wr.length p.x.c3, .slice p.x.a4 p.t.marks.length p.x.c4, .int .i64 p.t.state], .int .i64 q] [] (fun w => SeesA w (rdsX p)) (fun v A' => ∃ z : TX, z.t = (p.t.back q).1 ∧ v = .tuple #[.agg #[.int .i64 z.t.id, .int .i64 z.t.age, .int .i64 z.t.proc, .int .i64 z.t.began, .slice z.x.a0 z.t.calls.length z.x.c0, .slice z.x.a1 z.t.ans.length z.x.c1, .slice z.x.a2 z.t.rd.length z.x.c2, .slice z.x.a3 z.t.wr.length z.x.c3, .slice z.x.a4 z.t.marks.length z.x.c4, .int .i64 z.t.state], .bool (p.t.back q).2] ∧ A' = [.rows (rdsX z)]) := by
 refine Ct.intro Tryz.func29 rfl Tryz.ntmps29 (lb rfl) fun w0 hpre => ?_
 obtain ⟨hs_1, hs_2, hs_3, hs_4, hs_5⟩ := seesX hpre
 have hlp := hl
 obtain ⟨hb_6, hb_7, hb_8, hb_9, hb_10⟩ := hl
 refine go ?_
 refine jM (xc p) fun b_11 => ?_
 refine jG xzc fun b_12 => ?_
 refine go ?_
 refine jA [] (Z_implTxclone p hlp) (hpre := fun w hw => hw.seeOutA hpre nMA) ?_
 rintro _ _ ⟨y_13, hy_14, rfl, rfl⟩
 refine jG xzc fun b_15 => ?_
 refine jD 0 (xc y_13) ?_
 refine go ?_
 by_cases h_16 : p.t.state = 1
 · refine go ?_
   refine jW rfl rfl rfl (cB (cN (dT h_16))) (jO [] Tryz.call109 rfl (Y_within q 1 ((p.t.marks.length : Nat) : Int)) rfl (fun _ _ => trivial)) ?_
   rintro _ _ ⟨_, ⟨rfl, rfl⟩, rfl⟩
   refine go ?_
   rcases Bool.eq_false_or_eq_true (within 1 q ((p.t.marks.length : Nat) : Int)) with h_17 | h_17
   · have hwi := within_true h_17
     refine JC.condF (cB (cN h_17)) <| JC.skip <| jT <| jc <| JC.ghost (L' := [Res.row (.slice y_13.x.a0 y_13.t.calls.length y_13.x.c0) 43 6 y_13.t.calls.length (y_13.t.calls.flatMap encK), Res.row (.slice y_13.x.a1 y_13.t.ans.length y_13.x.c1) 39 3 y_13.t.ans.length (y_13.t.ans.flatMap encA), rS y_13.x.a2 y_13.x.c2 y_13.t.rd, rS y_13.x.a3 y_13.x.c3 y_13.t.wr, rI y_13.x.a4 y_13.x.c4 y_13.t.marks, bk b_15 35 (xc y_13), bk b_12 35 xzc, bk b_11 35 (xc p)]) (fun w hw => hw.openR 1 rfl) ?_
     have hl_calls : y_13.t.calls.length = p.t.calls.length := by rw [hy_14]
     have hl_ans : y_13.t.ans.length = p.t.ans.length := by rw [hy_14]
     have hl_marks : y_13.t.marks.length = p.t.marks.length := by rw [hy_14]
     have hst : y_13.t.state = p.t.state := congrArg TD.state hy_14
     refine go ?_
     obtain ⟨kk_18, hkk_19⟩ : ∃ kk_18 : Nat, q - 1 = ((kk_18 : Nat) : Int) := ⟨(q - 1).toNat, by omega⟩
     refine jK (PO.castVD (jg (c := q - 1) rfl rfl (wr (by omega))) (congrArg (Value.int .i64) hkk_19)) ?_
     obtain ⟨hr_20, hr_20b, -⟩ := sees_some hs_5 (by omega)
     refine go ?_
     refine jU (jY (v := iv (p.t.marks.getD kk_18 0)) hs_5 nM rfl kR (atI (by omega))) ?_
     refine go ?_
     refine jH [0, 0, 0, 0, 0, 0, 0, 0] 9 ?_
     refine go ?_
     refine jB (i := 6) ?_
     refine ja rfl rfl (jO [] Tryz.call111 rfl (Y_implbro (p.t.marks.getD kk_18 0) y_13.t.calls.length) rfl (fun _ _ => trivial)) ?_
     rintro _ _ ⟨_, ⟨rfl, rfl⟩, rfl⟩
     have hbro20 := bro_le (p.t.marks.getD kk_18 0) y_13.t.calls.length
     refine ⟨all_go, ?_⟩
     refine JA.facts fun hst => ?_
     obtain ⟨hf_21m, hf_21x, hf_21s, hf_21l⟩ := fits_of hst (i := 0) rfl
     refine jd 7 rfl (PO.sliceVh (j := (bro (p.t.marks.getD kk_18 0) y_13.t.calls.length)) kf kX hf_21s rfl rfl (by omega)) ?_
     refine jB (i := 8) ?_
     refine jI [] (Y_clipK y_13.x.a0 hf_21s (bro (p.t.marks.getD kk_18 0) y_13.t.calls.length) y_13.x.c0 (by omega) (by omega)) ?_
     rintro _ _ ⟨rfl, rfl⟩
     refine go ?_
     refine jB (i := 10) ?_
     refine jS 5 [iv y_13.t.id, iv y_13.t.age, iv y_13.t.proc, iv y_13.t.began, .slice y_13.x.a0 (bro (p.t.marks.getD kk_18 0) y_13.t.calls.length) (bro (p.t.marks.getD kk_18 0) y_13.t.calls.length), .slice y_13.x.a1 y_13.t.ans.length y_13.x.c1, .slice y_13.x.a2 y_13.t.rd.length y_13.x.c2, .slice y_13.x.a3 y_13.t.wr.length y_13.x.c3, .slice y_13.x.a4 y_13.t.marks.length y_13.x.c4, iv y_13.t.state] ?_
     refine go ?_
     refine jH [0, 0, 0, 0, 0, 0, 0, 0] 9 ?_
     refine go ?_
     refine jB (i := 6) ?_
     refine ja rfl rfl (jO [] Tryz.call111 rfl (Y_implbro (p.t.marks.getD kk_18 0) y_13.t.ans.length) rfl (fun _ _ => trivial)) ?_
     rintro _ _ ⟨_, ⟨rfl, rfl⟩, rfl⟩
     have hbro21 := bro_le (p.t.marks.getD kk_18 0) y_13.t.ans.length
     refine ⟨all_go, ?_⟩
     refine JA.facts fun hst => ?_
     obtain ⟨hf_22m, hf_22x, hf_22s, hf_22l⟩ := fits_of hst (i := 1) rfl
     refine jd 7 rfl (PO.sliceVh (j := (bro (p.t.marks.getD kk_18 0) y_13.t.ans.length)) ke kY hf_22s rfl rfl (by omega)) ?_
     refine jB (i := 8) ?_
     refine jI [] (Y_clipA y_13.x.a1 hf_22s (bro (p.t.marks.getD kk_18 0) y_13.t.ans.length) y_13.x.c1 (by omega) (by omega)) ?_
     rintro _ _ ⟨rfl, rfl⟩
     refine go ?_
     refine jB (i := 10) ?_
     refine jS 5 [iv y_13.t.id, iv y_13.t.age, iv y_13.t.proc, iv y_13.t.began, .slice y_13.x.a0 (bro (p.t.marks.getD kk_18 0) y_13.t.calls.length) (bro (p.t.marks.getD kk_18 0) y_13.t.calls.length), .slice y_13.x.a1 (bro (p.t.marks.getD kk_18 0) y_13.t.ans.length) (bro (p.t.marks.getD kk_18 0) y_13.t.ans.length), .slice y_13.x.a2 y_13.t.rd.length y_13.x.c2, .slice y_13.x.a3 y_13.t.wr.length y_13.x.c3, .slice y_13.x.a4 y_13.t.marks.length y_13.x.c4, iv y_13.t.state] ?_
     refine go ?_
     refine jK (PO.castVD (jg (c := q - 1) rfl rfl (wr (by omega))) (congrArg (Value.int .i64) hkk_19)) ?_
     refine jo fun hst => ?_
     obtain ⟨hf_23m, hf_23x, hf_23s, hf_23l⟩ := fits_of hst (i := 4) rfl
     refine jK (PO.sliceVh (j := kk_18) kL kS hf_23s rfl rfl (by omega)) ?_
     refine jN [] (Y_clipI y_13.x.a4 hf_23s kk_18 y_13.x.c4 (by omega) (by omega)) ?_
     refine go ?_
     refine jD 5 [iv y_13.t.id, iv y_13.t.age, iv y_13.t.proc, iv y_13.t.began, .slice y_13.x.a0 (bro (p.t.marks.getD kk_18 0) y_13.t.calls.length) (bro (p.t.marks.getD kk_18 0) y_13.t.calls.length), .slice y_13.x.a1 (bro (p.t.marks.getD kk_18 0) y_13.t.ans.length) (bro (p.t.marks.getD kk_18 0) y_13.t.ans.length), .slice y_13.x.a2 y_13.t.rd.length y_13.x.c2, .slice y_13.x.a3 y_13.t.wr.length y_13.x.c3, .slice y_13.x.a4 kk_18 kk_18, iv y_13.t.state] ?_
     refine go ?_
     refine jD 6 [iv y_13.t.id, iv y_13.t.age, iv y_13.t.proc, iv y_13.t.began, .slice y_13.x.a0 (bro (p.t.marks.getD kk_18 0) y_13.t.calls.length) (bro (p.t.marks.getD kk_18 0) y_13.t.calls.length), .slice y_13.x.a1 (bro (p.t.marks.getD kk_18 0) y_13.t.ans.length) (bro (p.t.marks.getD kk_18 0) y_13.t.ans.length), .slice y_13.x.a2 y_13.t.rd.length y_13.x.c2, .slice y_13.x.a3 y_13.t.wr.length y_13.x.c3, .slice y_13.x.a4 kk_18 kk_18, iv y_13.t.state] ?_
     refine go ?_
     have hq_24 : (y_13.t.calls.take (bro (p.t.marks.getD kk_18 0) y_13.t.calls.length)).length = bro (p.t.marks.getD kk_18 0) y_13.t.calls.length := len_front (by omega)
     refine jw (L' := [Res.row (.slice y_13.x.a0 (y_13.t.calls.take (bro (p.t.marks.getD kk_18 0) y_13.t.calls.length)).length (bro (p.t.marks.getD kk_18 0) y_13.t.calls.length)) 43 6 (y_13.t.calls.take (bro (p.t.marks.getD kk_18 0) y_13.t.calls.length)).length ((y_13.t.calls.take (bro (p.t.marks.getD kk_18 0) y_13.t.calls.length)).flatMap encK), Res.row (.slice y_13.x.a1 y_13.t.ans.length y_13.x.c1) 39 3 y_13.t.ans.length (y_13.t.ans.flatMap encA), rS y_13.x.a2 y_13.x.c2 y_13.t.rd, rS y_13.x.a3 y_13.x.c3 y_13.t.wr, rI y_13.x.a4 y_13.x.c4 y_13.t.marks, bk b_15 35 [iv y_13.t.id, iv y_13.t.age, iv y_13.t.proc, iv y_13.t.began, .slice y_13.x.a0 (bro (p.t.marks.getD kk_18 0) y_13.t.calls.length) (bro (p.t.marks.getD kk_18 0) y_13.t.calls.length), .slice y_13.x.a1 (bro (p.t.marks.getD kk_18 0) y_13.t.ans.length) (bro (p.t.marks.getD kk_18 0) y_13.t.ans.length), .slice y_13.x.a2 y_13.t.rd.length y_13.x.c2, .slice y_13.x.a3 y_13.t.wr.length y_13.x.c3, .slice y_13.x.a4 kk_18 kk_18, iv y_13.t.state], bk b_12 35 [iv y_13.t.id, iv y_13.t.age, iv y_13.t.proc, iv y_13.t.began, .slice y_13.x.a0 (bro (p.t.marks.getD kk_18 0) y_13.t.calls.length) (bro (p.t.marks.getD kk_18 0) y_13.t.calls.length), .slice y_13.x.a1 (bro (p.t.marks.getD kk_18 0) y_13.t.ans.length) (bro (p.t.marks.getD kk_18 0) y_13.t.ans.length), .slice y_13.x.a2 y_13.t.rd.length y_13.x.c2, .slice y_13.x.a3 y_13.t.wr.length y_13.x.c3, .slice y_13.x.a4 kk_18 kk_18, iv y_13.t.state], bk b_11 35 (xc p)]) (fun w hw => hw.clip (i := 0) rfl (y_13.t.calls.take (bro (p.t.marks.getD kk_18 0) y_13.t.calls.length)).length (bro (p.t.marks.getD kk_18 0) y_13.t.calls.length) (by omega) (by omega) (by omega) (front_flat encK_len (by omega))) ?_
     have hq_25 : (y_13.t.ans.take (bro (p.t.marks.getD kk_18 0) y_13.t.ans.length)).length = bro (p.t.marks.getD kk_18 0) y_13.t.ans.length := len_front (by omega)
     refine jw (L' := [Res.row (.slice y_13.x.a0 (y_13.t.calls.take (bro (p.t.marks.getD kk_18 0) y_13.t.calls.length)).length (bro (p.t.marks.getD kk_18 0) y_13.t.calls.length)) 43 6 (y_13.t.calls.take (bro (p.t.marks.getD kk_18 0) y_13.t.calls.length)).length ((y_13.t.calls.take (bro (p.t.marks.getD kk_18 0) y_13.t.calls.length)).flatMap encK), Res.row (.slice y_13.x.a1 (y_13.t.ans.take (bro (p.t.marks.getD kk_18 0) y_13.t.ans.length)).length (bro (p.t.marks.getD kk_18 0) y_13.t.ans.length)) 39 3 (y_13.t.ans.take (bro (p.t.marks.getD kk_18 0) y_13.t.ans.length)).length ((y_13.t.ans.take (bro (p.t.marks.getD kk_18 0) y_13.t.ans.length)).flatMap encA), rS y_13.x.a2 y_13.x.c2 y_13.t.rd, rS y_13.x.a3 y_13.x.c3 y_13.t.wr, rI y_13.x.a4 y_13.x.c4 y_13.t.marks, bk b_15 35 [iv y_13.t.id, iv y_13.t.age, iv y_13.t.proc, iv y_13.t.began, .slice y_13.x.a0 (bro (p.t.marks.getD kk_18 0) y_13.t.calls.length) (bro (p.t.marks.getD kk_18 0) y_13.t.calls.length), .slice y_13.x.a1 (bro (p.t.marks.getD kk_18 0) y_13.t.ans.length) (bro (p.t.marks.getD kk_18 0) y_13.t.ans.length), .slice y_13.x.a2 y_13.t.rd.length y_13.x.c2, .slice y_13.x.a3 y_13.t.wr.length y_13.x.c3, .slice y_13.x.a4 kk_18 kk_18, iv y_13.t.state], bk b_12 35 [iv y_13.t.id, iv y_13.t.age, iv y_13.t.proc, iv y_13.t.began, .slice y_13.x.a0 (bro (p.t.marks.getD kk_18 0) y_13.t.calls.length) (bro (p.t.marks.getD kk_18 0) y_13.t.calls.length), .slice y_13.x.a1 (bro (p.t.marks.getD kk_18 0) y_13.t.ans.length) (bro (p.t.marks.getD kk_18 0) y_13.t.ans.length), .slice y_13.x.a2 y_13.t.rd.length y_13.x.c2, .slice y_13.x.a3 y_13.t.wr.length y_13.x.c3, .slice y_13.x.a4 kk_18 kk_18, iv y_13.t.state], bk b_11 35 (xc p)]) (fun w hw => hw.clip (i := 1) rfl (y_13.t.ans.take (bro (p.t.marks.getD kk_18 0) y_13.t.ans.length)).length (bro (p.t.marks.getD kk_18 0) y_13.t.ans.length) (by omega) (by omega) (by omega) (front_flat encA_len (by omega))) ?_
     have hq_26 : (y_13.t.marks.take kk_18).length = kk_18 := len_front (by omega)
     refine jw (L' := [Res.row (.slice y_13.x.a0 (y_13.t.calls.take (bro (p.t.marks.getD kk_18 0) y_13.t.calls.length)).length (bro (p.t.marks.getD kk_18 0) y_13.t.calls.length)) 43 6 (y_13.t.calls.take (bro (p.t.marks.getD kk_18 0) y_13.t.calls.length)).length ((y_13.t.calls.take (bro (p.t.marks.getD kk_18 0) y_13.t.calls.length)).flatMap encK), Res.row (.slice y_13.x.a1 (y_13.t.ans.take (bro (p.t.marks.getD kk_18 0) y_13.t.ans.length)).length (bro (p.t.marks.getD kk_18 0) y_13.t.ans.length)) 39 3 (y_13.t.ans.take (bro (p.t.marks.getD kk_18 0) y_13.t.ans.length)).length ((y_13.t.ans.take (bro (p.t.marks.getD kk_18 0) y_13.t.ans.length)).flatMap encA), rS y_13.x.a2 y_13.x.c2 y_13.t.rd, rS y_13.x.a3 y_13.x.c3 y_13.t.wr, rI y_13.x.a4 kk_18 (y_13.t.marks.take kk_18), bk b_15 35 [iv y_13.t.id, iv y_13.t.age, iv y_13.t.proc, iv y_13.t.began, .slice y_13.x.a0 (bro (p.t.marks.getD kk_18 0) y_13.t.calls.length) (bro (p.t.marks.getD kk_18 0) y_13.t.calls.length), .slice y_13.x.a1 (bro (p.t.marks.getD kk_18 0) y_13.t.ans.length) (bro (p.t.marks.getD kk_18 0) y_13.t.ans.length), .slice y_13.x.a2 y_13.t.rd.length y_13.x.c2, .slice y_13.x.a3 y_13.t.wr.length y_13.x.c3, .slice y_13.x.a4 kk_18 kk_18, iv y_13.t.state], bk b_12 35 [iv y_13.t.id, iv y_13.t.age, iv y_13.t.proc, iv y_13.t.began, .slice y_13.x.a0 (bro (p.t.marks.getD kk_18 0) y_13.t.calls.length) (bro (p.t.marks.getD kk_18 0) y_13.t.calls.length), .slice y_13.x.a1 (bro (p.t.marks.getD kk_18 0) y_13.t.ans.length) (bro (p.t.marks.getD kk_18 0) y_13.t.ans.length), .slice y_13.x.a2 y_13.t.rd.length y_13.x.c2, .slice y_13.x.a3 y_13.t.wr.length y_13.x.c3, .slice y_13.x.a4 kk_18 kk_18, iv y_13.t.state], bk b_11 35 (xc p)]) (fun w hw => hw.clip (i := 4) rfl (y_13.t.marks.take kk_18).length kk_18 (by omega) (by omega) (by omega) (front_map (by omega))) ?_
     refine cloJ (rdsX (⟨⟨y_13.x.a0, (bro (p.t.marks.getD kk_18 0) y_13.t.calls.length), y_13.x.a1, (bro (p.t.marks.getD kk_18 0) y_13.t.ans.length), y_13.x.a2, y_13.x.c2, y_13.x.a3, y_13.x.c3, y_13.x.a4, kk_18⟩, ⟨y_13.t.id, y_13.t.age, y_13.t.proc, y_13.t.began, y_13.t.calls.take (bro (p.t.marks.getD kk_18 0) y_13.t.calls.length), y_13.t.ans.take (bro (p.t.marks.getD kk_18 0) y_13.t.ans.length), y_13.t.rd, y_13.t.wr, y_13.t.marks.take kk_18, y_13.t.state⟩⟩ : TX)) [0, 0, 0, 0, 0] <| ji (.inl rfl) rfl (js (jl 2 (vs := [iv y_13.t.id, iv y_13.t.age, iv y_13.t.proc, iv y_13.t.began, .slice y_13.x.a0 (bro (p.t.marks.getD kk_18 0) y_13.t.calls.length) (bro (p.t.marks.getD kk_18 0) y_13.t.calls.length), .slice y_13.x.a1 (bro (p.t.marks.getD kk_18 0) y_13.t.ans.length) (bro (p.t.marks.getD kk_18 0) y_13.t.ans.length), .slice y_13.x.a2 y_13.t.rd.length y_13.x.c2, .slice y_13.x.a3 y_13.t.wr.length y_13.x.c3, .slice y_13.x.a4 kk_18 kk_18, iv y_13.t.state]) rfl rfl kT kQ rfl rfl) ⟨_, rfl⟩) (jC (v := .bool true) rfl) (tS 1 _) ?_
     have hm : p.t.back q = ((⟨⟨y_13.x.a0, (bro (p.t.marks.getD kk_18 0) y_13.t.calls.length), y_13.x.a1, (bro (p.t.marks.getD kk_18 0) y_13.t.ans.length), y_13.x.a2, y_13.x.c2, y_13.x.a3, y_13.x.c3, y_13.x.a4, kk_18⟩, ⟨y_13.t.id, y_13.t.age, y_13.t.proc, y_13.t.began, y_13.t.calls.take (bro (p.t.marks.getD kk_18 0) y_13.t.calls.length), y_13.t.ans.take (bro (p.t.marks.getD kk_18 0) y_13.t.ans.length), y_13.t.rd, y_13.t.wr, y_13.t.marks.take kk_18, y_13.t.state⟩⟩ : TX).t, true) := by rw [← hy_14]; unfold TD.back; rw [if_pos (by omega), hkk_19, Int.toNat_natCast]
     exact ⟨(⟨⟨y_13.x.a0, (bro (p.t.marks.getD kk_18 0) y_13.t.calls.length), y_13.x.a1, (bro (p.t.marks.getD kk_18 0) y_13.t.ans.length), y_13.x.a2, y_13.x.c2, y_13.x.a3, y_13.x.c3, y_13.x.a4, kk_18⟩, ⟨y_13.t.id, y_13.t.age, y_13.t.proc, y_13.t.began, y_13.t.calls.take (bro (p.t.marks.getD kk_18 0) y_13.t.calls.length), y_13.t.ans.take (bro (p.t.marks.getD kk_18 0) y_13.t.ans.length), y_13.t.rd, y_13.t.wr, y_13.t.marks.take kk_18, y_13.t.state⟩⟩ : TX), by rw [hm], by rw [hm]; simp only [hq_24, hq_25, hq_26], rfl⟩
   have hwi := within_false h_17
   refine go ?_
   refine jD 2 (xc y_13) ?_
   refine go ?_
   refine ju (pick_perm [1] (A := [Res.rows (rdsX y_13)]) (F := [bk b_15 35 (xc y_13), bk b_12 35 (xc y_13), bk b_11 35 (xc p)]) rfl).symm ?_
   refine ji (.inl rfl) rfl (js (jl 2 (vs := (xc y_13)) rfl rfl kT kQ rfl rfl) ⟨_, rfl⟩) (jC (v := .bool false) rfl) (tS 1 _) ?_
   have hst : y_13.t.state = p.t.state := congrArg TD.state hy_14
   have hml : y_13.t.marks.length = p.t.marks.length := by rw [hy_14]
   have hm : p.t.back q = (p.t, false) := if_neg (by omega)
   exact ⟨y_13, by rw [hm]; exact hy_14, by rw [hm], rfl⟩
 refine go ?_
 refine jD 2 (xc y_13) ?_
 refine go ?_
 refine ju (pick_perm [1] (A := [Res.rows (rdsX y_13)]) (F := [bk b_15 35 (xc y_13), bk b_12 35 (xc y_13), bk b_11 35 (xc p)]) rfl).symm ?_
 refine ji (.inl rfl) rfl (js (jl 2 (vs := (xc y_13)) rfl rfl kT kQ rfl rfl) ⟨_, rfl⟩) (jC (v := .bool false) rfl) (tS 1 _) ?_
 have hst : y_13.t.state = p.t.state := congrArg TD.state hy_14
 have hml : y_13.t.marks.length = p.t.marks.length := by rw [hy_14]
 have hm : p.t.back q = (p.t, false) := if_neg (by omega)
 exact ⟨y_13, by rw [hm]; exact hy_14, by rw [hm], rfl⟩
end Go.Proofs.YthlfmbbaomdciaaGreatDoor
namespace Go.Proofs.YthlfmbbaomdciaaGreatDoor
open Go Go.RowKit
section
variable {s : List Cell} {l : List SP} {r w : List Str} {M M' : List Int} {P : Int} {i j : Nat} {t z y : TD}
theorem bInv.again {j' : Nat} {n : Nat} (hy : bInv s l [] [] M P n j y) (hz : bInv s l y.rd y.wr M' P n j' z) : z.ans = y.ans ∧ z.rd = y.rd ∧ z.wr = y.wr ∧ laidW s (viewA s z) z.wr = laidW s (viewA s y) y.wr := by
 have hso : stepsOf z = stepsOf y := by rw [stepsOf, stepsOf, hz.c, hy.c, hz.p, hy.p]
 have hw : z.wr = y.wr := by
   rw [hz.wr, hso]
   exact addAll_has (hy.srtW srt.nil) fun x hx => by rw [hy.wr]; exact mem_addAll.2 (.inl hx)
 refine ⟨by rw [hz.a, hy.a, hso], ?_, hw, by rw [viewA_tr, viewA_tr, hso, hw]⟩
 rw [hz.rd, hso]
 exact addAll_has (hy.srtR srt.nil) fun x hx => by rw [hy.rd]; exact mem_addAll.2 (.inl hx)
end
end Go.Proofs.YthlfmbbaomdciaaGreatDoor
