/-
Texts of the walk, joined: what each one proves stands at its theorems.
-/
import Derived.Test.YthlfmbbaomdciaaGreatDoorB0DatF
import Derived.Lib.MinMax
set_option linter.unusedSimpArgs false
set_option linter.unusedVariables false
set_option linter.unnecessarySimpa false
set_option maxHeartbeats 4000000
set_option maxRecDepth 4000
namespace Go.Proofs.YthlfmbbaomdciaaGreatDoor
open Go Go.RowKit
section
variable {P : Program} {n : Nat} {e : Env} {d : Option Tmp} {ty : TypeId} {pos : String} {aft : Array Edge} {gd : Option (Nat × Bool)}
theorem PO.min2 {x y : Operand} {a b c : Int} {ts : Array TypeId} (hx : rd n e x = .int .i64 a) (hy : rd n e y = .int .i64 b) (hc : min a b = c) : PO P n e ⟨d, .call ⟨.builtin .min, #[x, y], ts⟩, ty, pos, aft, gd⟩ (.int .i64 c) := fun w => by
 subst hc
 simp [execOp, resolve, invoke, builtin, hx, hy, Lib.run_min_ints]
theorem PO.max2 {x y : Operand} {a b c : Int} {ts : Array TypeId} (hx : rd n e x = .int .i64 a) (hy : rd n e y = .int .i64 b) (hc : max a b = c) : PO P n e ⟨d, .call ⟨.builtin .max, #[x, y], ts⟩, ty, pos, aft, gd⟩ (.int .i64 c) := fun w => by
 subst hc
 simp [execOp, resolve, invoke, builtin, hx, hy, Lib.run_max_ints]
theorem PO.min3 {x y z : Operand} {a b q c : Int} {ts : Array TypeId} (hx : rd n e x = .int .i64 a) (hy : rd n e y = .int .i64 b) (hz : rd n e z = .int .i64 q) (hc : min (min a b) q = c) : PO P n e ⟨d, .call ⟨.builtin .min, #[x, y, z], ts⟩, ty, pos, aft, gd⟩ (.int .i64 c) := fun w => by
 have e1 : (if b < a then b else a) = min a b := by
   rw [Int.min_def]
   split <;> split <;> omega
 have e2 : (if q < min a b then q else min a b) = min (min a b) q := by
   generalize min a b = r
   rw [Int.min_def]
   split <;> split <;> omega
 subst hc
 simp [execOp, resolve, invoke, builtin, hx, hy, hz, Builtin.min_, Builtin.min2, e1, e2]
end
attribute [local irreducible] JL JC JQ JO LO PO JA JX Ct

theorem M_sizeFile (x : MA) (m : MS) {S T : Nat} (hk : m.ok S T) (hS : S ≤ 700000000) (hT : T ≤ 1650000000) (id : Int) (hid : -9223372036854775808 ≤ id ∧ id ≤ 9223372036854775807) :
   Ct Tryz.prog 353 [mv x m, .int .i64 id] (mr x m) (fun _ => True) (fun v A' => ∃ x' m' r0, MS.sizeOf m id = (m', r0) ∧ m'.ok (S) (T + 1) ∧ (0 ≤ r0 ∧ r0 ≤ 999) ∧ v = .tuple #[mv x' m', .int .i64 r0] ∧ A' = mr x' m') := by
 refine Ct.intro Tryz.func353 rfl Tryz.ntmps353 (lb rfl) fun w0 hpre => ?_
 refine go ?_
 refine jM (mc x m) fun b_1 => ?_
 refine jG zC fun b_2 => ?_
 refine go ?_
 refine jH [1] 6 ?_
 refine go ?_
 refine jB (i := 2) ?_
 refine jI [] (N_sKeyNum [105, 47] id [47, 115] (show List.length ([105, 47] : Str) ≤ 2 by decide) (by omega) (show List.length ([47, 115] : Str) ≤ 2 by decide) (by omega)) ?_
 rintro _ _ ⟨u_9, e_7, f_10, rfl, rfl⟩
 refine jB (i := 3) ?_
 refine jI [2, 2, 2] (N_sNumAt x m hk (by omega) (by omega) u_9) ?_
 rintro _ _ ⟨x_19, m_20, n_21, e_17, k_18, f_22, rfl, rfl⟩
 refine go ?_
 refine jB (i := 6) ?_
 refine jf 3 (mc x_19 m_20) ?_
 refine go ?_
 exact jQ [0, 0, 0] ⟨x_19, m_20, n_21, (by simp only [MS.sizeOf, e_7, e_17, SB]; (repeat (first | rw [if_pos (by omega)] | rw [if_neg (by omega)])); all_goals (first | rfl | simp only [SB, e_7, e_17])), (k_18.mono (by omega) (by omega)), (by first | omega | (simp only [LE]; omega)), rfl, rfl⟩

theorem N_block (p : Nat) (x : MA) (m : MS) {S T : Nat} (hk : m.ok S T) (hS : S ≤ 700000000) (hT : T ≤ 1650000000) (id : Int) (place : Int) (hid : -9223372036854775808 ≤ id ∧ id ≤ 9223372036854775807) (hplace : -9223372036854775808 ≤ place ∧ place ≤ 9223372036854775807) :
   Ct Tryz.prog 348 [.pointer (some ⟨p, 0, none⟩), .int .i64 id, .int .i64 place] (mb p x m :: mr x m) (fun w => HexOk w) (fun v A' => ∃ x' m' r0, MS.block m id place = (m', r0) ∧ m'.ok (S) (T + 1) ∧ r0.length ≤ 20000 ∧ v = str r0 ∧ A' = mb p x' m' :: mr x' m') := by
 refine Ct.introL Tryz.func348 rfl Tryz.ntmps348 (lb rfl) fun w0 hpre hlow => ?_
 refine go ?_
 refine jA [] (N_blockKey id place (by omega) (by omega)) ?_
 rintro _ _ ⟨u_3, e_1, f_4, rfl, rfl⟩
 refine jA [0, 0, 0, 0] (N_look p x m hk (by omega) (by omega) u_3) ?_
 rintro _ _ ⟨x_7, m_8, u_9, e_5, k_6, f_10, rfl, rfl⟩
 refine jA [] (N_unhex u_9 (by omega)) (hpre := fun w hw => hw.hex hlow hpre) ?_
 rintro _ _ ⟨u_13, b_15, e_11, f_14, rfl, rfl⟩
 refine go ?_
 refine jE (.inl rfl) rfl (jC (v := str u_13) rfl) (List.Sublist.refl _) ?_
 exact ⟨x_7, m_8, u_13, (by simp only [MS.block, e_1, e_5, e_11, SB]; (repeat (first | rw [if_pos (by omega)] | rw [if_neg (by omega)])); all_goals (first | rfl | simp only [SB, e_1, e_5, e_11])), (k_6.mono (by omega) (by omega)), (by first | omega | (simp only [LE]; omega)), rfl, rfl⟩

theorem M_block (x : MA) (m : MS) {S T : Nat} (hk : m.ok S T) (hS : S ≤ 700000000) (hT : T ≤ 1650000000) (id : Int) (place : Int) (hid : -9223372036854775808 ≤ id ∧ id ≤ 9223372036854775807) (hplace : -9223372036854775808 ≤ place ∧ place ≤ 9223372036854775807) :
   Ct Tryz.prog 354 [mv x m, .int .i64 id, .int .i64 place] (mr x m) (fun _ => True) (fun v A' => ∃ x' m' r0, MS.block m id place = (m', r0) ∧ m'.ok (S) (T + 1) ∧ r0.length ≤ 20000 ∧ v = .tuple #[mv x' m', str r0] ∧ A' = mr x' m') := by
 refine Ct.intro Tryz.func354 rfl Tryz.ntmps354 (lb rfl) fun w0 hpre => ?_
 refine go ?_
 refine jM (mc x m) fun b_1 => ?_
 refine jG zC fun b_2 => ?_
 refine go ?_
 refine jH [1] 8 ?_
 refine go ?_
 refine jB (i := 3) ?_
 refine jI [] (N_l07Block id place (by omega) (by omega)) ?_
 rintro _ _ ⟨u_9, e_7, f_10, rfl, rfl⟩
 refine jB (i := 4) ?_
 refine jI [2, 2, 2] (N_sLook x m hk (by omega) (by omega) u_9) ?_
 rintro _ _ ⟨x_19, m_20, u_21, e_17, k_18, f_22, rfl, rfl⟩
 refine go ?_
 refine jB (i := 8) ?_
 refine jf 4 (mc x_19 m_20) ?_
 refine go ?_
 refine jA [] (N_sUnhex u_21 (by omega)) ?_
 rintro _ _ ⟨u_25, b_27, e_23, f_26, rfl, rfl⟩
 refine go ?_
 rcases Bool.eq_false_or_eq_true (b_27) with h_28 | h_28
 · refine go ?_
   refine jD 3 (mc x_19 m_20) ?_
   refine go ?_
   exact jQ [0, 0, 0] ⟨x_19, m_20, u_25, (by simp only [MS.block, e_7, e_17, e_23, h_28, SB]; (repeat (first | rw [if_pos (by omega)] | rw [if_neg (by omega)])); all_goals (first | rfl | simp only [SB, e_7, e_17, e_23, h_28])), (k_18.mono (by omega) (by omega)), (by first | omega | (simp only [LE]; omega)), rfl, rfl⟩
 have hu := unhex_fst (e_23.trans (congrArg _ h_28))
 refine go ?_
 refine jD 3 (mc x_19 m_20) ?_
 refine go ?_
 exact jQ [0, 0, 0] ⟨x_19, m_20, [], (by simp only [MS.block, e_7, e_17, e_23, h_28, hu, SB]; (repeat (first | rw [if_pos (by omega)] | rw [if_neg (by omega)])); all_goals (first | rfl | simp only [SB, e_7, e_17, e_23, h_28, hu])), (k_18.mono (by omega) (by omega)), (by first | omega | (simp only [LE]; omega)), rfl, rfl⟩

theorem M_layBlock (x : MA) (m : MS) {S T : Nat} (hk : m.ok S T) (hS : S ≤ 700000000) (hT : T ≤ 1650000000) (id : Int) (place : Int) (t : Str) (hid : -9223372036854775808 ≤ id ∧ id ≤ 9223372036854775807) (hplace : -9223372036854775808 ≤ place ∧ place ≤ 9223372036854775807) (ht : t.length ≤ 1000000000000) :
   Ct Tryz.prog 355 [mv x m, .int .i64 id, .int .i64 place, str t] (mr x m) (fun _ => True) (fun v A' => ∃ x' m', (fun m i p t => m.lay (keyNum (keyNum ([105, 47] : Str) i ([47, 98, 47] : Str)) p []) (hexS t)) m id place t = m' ∧ m'.ok (S + 1) (T + 1) ∧ v = mv x' m' ∧ A' = mr x' m') := by
 refine Ct.intro Tryz.func355 rfl Tryz.ntmps355 (lb rfl) fun w0 hpre => ?_
 refine go ?_
 refine jM (mc x m) fun b_1 => ?_
 refine jG zC fun b_2 => ?_
 refine go ?_
 refine jA [] (N_sHex t (by omega)) ?_
 rintro _ _ ⟨u_5, b_7, e_3, f_6, rfl, rfl⟩
 refine go ?_
 refine jH [1] 5 ?_
 refine go ?_
 refine jB (i := 3) ?_
 refine jI [] (N_l07Block id place (by omega) (by omega)) ?_
 rintro _ _ ⟨u_18, e_16, f_19, rfl, rfl⟩
 refine jB (i := 5) ?_
 refine kE [2, 2, 2] (N_sLay x m hk (by omega) (by omega) u_18 u_5 (by omega)) ?_
 rintro _ _ ⟨x_26, m_27, e_24, k_25, rfl, rfl⟩
 refine jB (i := 6) ?_
 refine jS 3 (mc x_26 m_27) ?_
 refine go ?_
 exact jJ [0, 0, 0] ⟨x_26, m_27, (by simp only [hexS_P, e_3, e_16, e_24, SB]; (repeat (first | rw [if_pos (by omega)] | rw [if_neg (by omega)])); all_goals (first | rfl | simp only [SB, e_3, e_16, e_24])), (k_25.mono (by omega) (by omega)), rfl, rfl⟩

theorem N_readFile (p : Nat) (x : MA) (m : MS) {S T : Nat} (hk : m.ok S T) (hS : S ≤ 300000000) (hT : T ≤ 1250000000) (id : Int) (at_ : Int) (n : Int) (hid : -9223372036854775808 ≤ id ∧ id ≤ 9223372036854775807) (hat_ : -9223372036854775808 ≤ at_ ∧ at_ ≤ 9223372036854775807) (hn : -9223372036854775808 ≤ n ∧ n ≤ 9223372036854775807) :
   Ct Tryz.prog 299 [.pointer (some ⟨p, 0, none⟩), .int .i64 id, .int .i64 at_, .int .i64 n] (mb p x m :: mr x m) (fun w => HexOk w) (fun v A' => ∃ x' m' r0, MS.readFile m id at_ n = (m', r0) ∧ m'.ok (S) (T + 130) ∧ r0.length ≤ 1016 ∧ v = str r0 ∧ A' = mb p x' m' :: mr x' m') := by
 refine Ct.introL Tryz.func299 rfl Tryz.ntmps299 (lb rfl) fun w0 hpre hlow => ?_
 refine go ?_
 refine jA [] (N_sizeKey id (by omega)) ?_
 rintro _ _ ⟨u_3, e_1, f_4, rfl, rfl⟩
 refine jA [0, 0, 0, 0] (N_num p x m hk (by omega) (by omega) u_3) ?_
 rintro _ _ ⟨x_7, m_8, n_9, e_5, k_6, f_10, rfl, rfl⟩
 refine go ?_
 by_cases h_11 : at_ < 0
 · refine go ?_
   refine jE (.inl rfl) rfl (jC (v := str []) rfl) (List.Sublist.refl _) ?_
   exact ⟨x_7, m_8, [], (by simp only [MS.readFile, Int.toNat_natCast, true_or, or_true, false_or, or_false, MS.sizeOf, e_1, e_5, h_11, SB]; (repeat (first | rw [if_pos (by omega)] | rw [if_neg (by omega)])); all_goals (first | rfl | simp only [SB, e_1, e_5, h_11])), (k_6.mono (by omega) (by omega)), (by first | omega | (simp only [LE]; omega)), rfl, rfl⟩
 obtain ⟨a, hat⟩ : ∃ a : Nat, at_ = ((a : Nat) : Int) := ⟨at_.toNat, by omega⟩
 refine go ?_
 by_cases h_12 : n < 1
 · refine go ?_
   refine jE (.inl rfl) rfl (jC (v := str []) rfl) (List.Sublist.refl _) ?_
   exact ⟨x_7, m_8, [], (by simp only [MS.readFile, Int.toNat_natCast, true_or, or_true, false_or, or_false, MS.sizeOf, e_1, e_5, h_11, hat, h_12, SB]; (repeat (first | rw [if_pos (by omega)] | rw [if_neg (by omega)])); all_goals (first | rfl | simp only [SB, e_1, e_5, h_11, hat, h_12])), (k_6.mono (by omega) (by omega)), (by first | omega | (simp only [LE]; omega)), rfl, rfl⟩
 first | refine kA 2 (v := nv a) (congrArg (Value.int .i64) hat) ?_ | refine jv 2 (v := nv a) (congrArg (Value.int .i64) hat) ?_ | refine kB 2 (v := nv a) (congrArg (Value.int .i64) hat) ?_ | refine kC 2 (v := nv a) (congrArg (Value.int .i64) hat) ?_
 refine go ?_
 by_cases h_13 : n_9 ≤ ((a : Nat) : Int)
 · refine go ?_
   refine jE (.inl rfl) rfl (jC (v := str []) rfl) (List.Sublist.refl _) ?_
   exact ⟨x_7, m_8, [], (by simp only [MS.readFile, Int.toNat_natCast, true_or, or_true, false_or, or_false, MS.sizeOf, e_1, e_5, h_11, hat, h_12, h_13, SB]; (repeat (first | rw [if_pos (by omega)] | rw [if_neg (by omega)])); all_goals (first | rfl | simp only [SB, e_1, e_5, h_11, hat, h_12, h_13])), (k_6.mono (by omega) (by omega)), (by first | omega | (simp only [LE]; omega)), rfl, rfl⟩
 refine go ?_
 refine jK (jg (c := n_9 - ((a : Nat) : Int)) rfl rfl (wr (by omega))) <| jK (PO.min2 (c := min n (n_9 - ((a : Nat) : Int))) rfl rfl rfl) ?_
 refine go ?_
 obtain ⟨E, hE, hE2⟩ : ∃ E : Nat, ((a : Nat) : Int) + min n (n_9 - ((a : Nat) : Int)) = (E : Int) ∧ ((a : Nat) : Int) + (min n (n_9 - ((a : Nat) : Int))) = (E : Int) := ⟨(((a : Nat) : Int) + (min n (n_9 - ((a : Nat) : Int)))).toNat, by omega, by omega⟩
 have hE3 : a < E ∧ E ≤ 999 := by omega
 refine jL (fun k_ e_ L_ => ∃ p_ : Nat, ∃ x1 : MA, ∃ mm : MS, ∃ o_ : Str, (mm.ok (S) (T + 2 + p_)) ∧ (a / 8 ≤ p_ ∧ p_ ≤ 125) ∧ (o_.length + 8 * (a / 8) ≤ 8 * p_) ∧ (MS.readL id a E (130 - p_) p_ mm o_ = MS.readL id a E (130 - a / 8) (a / 8) m_8 []) ∧ EL e_ [(0, pv p), (1, iv id), (2, nv a), (8, str []), (10, nv E), (11, str o_), (12, nv p_)] ∧ L_ = [mb p x1 mm, rC x1.a0 x1.c0 mm.s, rS x1.a1 x1.c1 mm.r, rS x1.a2 x1.c2 mm.w] ∧ k_ = 126 - p_) _ ⟨(a / 8), x_7, m_8, [], (k_6.mono (by omega) (by omega)), (by omega), (by simp only [List.length_nil]; omega), rfl, (EL.cons rfl <| EL.cons rfl <| EL.cons rfl <| EL.cons rfl <| EL.cons (congrArg (Value.int .i64) hE2) <| EL.go), rfl, rfl⟩ ?_
 rintro _ _ _ ⟨p_, x1, mm, o_, hkmm, hp0, ho, hR, ⟨_, rfl⟩, rfl, rfl⟩
 refine go ?_
 by_cases h_14 : ((p_ * 8 : Nat) : Int) < ((E : Nat) : Int)
 · refine go ?_
   refine jA [0, 0, 0, 0] (N_block p x1 mm hkmm (by omega) (by omega) id ((p_ : Nat) : Int) (by omega) (by omega)) (hpre := fun w hw => hw.hex hlow hpre) ?_
   rintro _ _ ⟨x_17, m_18, u_19, e_15, k_16, f_20, rfl, rfl⟩
   refine go ?_
   refine jK (jg (c := ((a : Nat) : Int) - ((p_ * 8 : Nat) : Int)) rfl rfl (wr (by omega))) <| jK (PO.max2 (c := ((a - p_ * 8 : Nat) : Int)) rfl rfl (by omega)) ?_
   refine go ?_
   refine jK (jg (c := ((E : Nat) : Int) - ((p_ * 8 : Nat) : Int)) rfl rfl (wr (by omega))) ?_
   refine go ?_
   refine jK (PO.min3 (c := ((min (min (E - p_ * 8) 8) u_19.length : Nat) : Int)) rfl rfl rfl (by omega)) ?_
   refine go ?_
   by_cases h_21 : ((a - p_ * 8 : Nat) : Int) < ((min (min (E - p_ * 8) 8) u_19.length : Nat) : Int)
   · have hp : piece u_19 (a - p_ * 8) (min (min (E - p_ * 8) 8) u_19.length) = (u_19.drop (a - p_ * 8)).take ((min (min (E - p_ * 8) 8) u_19.length) - (a - p_ * 8)) := rfl
     refine go ?_
     refine jK (PO.sliceS (i := (a - p_ * 8)) (j := (min (min (E - p_ * 8) 8) u_19.length)) kO rfl rfl rfl (by omega) (by omega)) ?_
     refine go ?_
     exact jP [0, 0, 0, 0] ⟨(p_ + 1), x_17, m_18, (o_ ++ ((u_19.drop (a - p_ * 8)).take ((min (min (E - p_ * 8) 8) u_19.length) - (a - p_ * 8)))), (k_16.mono (by omega) (by omega)), (by omega), (by first | omega | (simp only [List.length_append, List.length_take, List.length_drop]; omega)), (by rw [show 130 - p_ = (130 - (p_ + 1)) + 1 by omega, MS.readL, if_pos (by omega)] at hR; simp only [e_1, e_5, e_15, hp, List.append_nil] at hR; exact hR), EL.go, rfl, rfl⟩
   have hp : piece u_19 (a - p_ * 8) (min (min (E - p_ * 8) 8) u_19.length) = [] := piece_nil (by omega)
   refine go ?_
   exact jP [0, 0, 0, 0] ⟨(p_ + 1), x_17, m_18, o_, (k_16.mono (by omega) (by omega)), (by omega), (by first | omega | (simp only [List.length_append, List.length_take, List.length_drop]; omega)), (by rw [show 130 - p_ = (130 - (p_ + 1)) + 1 by omega, MS.readL, if_pos (by omega)] at hR; simp only [e_1, e_5, e_15, hp, List.append_nil] at hR; exact hR), EL.go, rfl, rfl⟩
 rw [MS.readL_stop (by omega)] at hR
 have hRE := hR.symm
 refine go ?_
 refine jE (.inl rfl) rfl (jC (v := str o_) rfl) (List.Sublist.refl _) ?_
 exact ⟨x1, mm, o_, (by simp only [MS.readFile, Int.toNat_natCast, true_or, or_true, false_or, or_false, MS.sizeOf, e_1, e_5, h_11, hat, h_12, h_13, hE, h_14, hRE, SB]; (repeat (first | rw [if_pos (by omega)] | rw [if_neg (by omega)])); all_goals (first | rfl | simp only [SB, e_1, e_5, h_11, hat, h_12, h_13, hE, h_14, hRE])), (hkmm.mono (by omega) (by omega)), (by first | omega | (simp only [LE]; omega)), rfl, rfl⟩

theorem M_readFile (x : MA) (m : MS) {S T : Nat} (hk : m.ok S T) (hS : S ≤ 300000000) (hT : T ≤ 1250000000) (id : Int) (at_ : Int) (n : Int) (hid : -9223372036854775808 ≤ id ∧ id ≤ 9223372036854775807) (hat_ : -9223372036854775808 ≤ at_ ∧ at_ ≤ 9223372036854775807) (hn : -9223372036854775808 ≤ n ∧ n ≤ 9223372036854775807) :
   Ct Tryz.prog 315 [mv x m, .int .i64 id, .int .i64 at_, .int .i64 n] (mr x m) (fun _ => True) (fun v A' => ∃ x' m' r0, MS.readFile m id at_ n = (m', r0) ∧ m'.ok (S) (T + 130) ∧ r0.length ≤ 1016 ∧ v = .tuple #[mv x' m', str r0] ∧ A' = mr x' m') := by
 refine Ct.intro Tryz.func315 rfl Tryz.ntmps315 (lb rfl) fun w0 hpre => ?_
 refine go ?_
 refine jM (mc x m) fun b_1 => ?_
 refine jG zC fun b_2 => ?_
 refine go ?_
 refine jA [2, 2, 2] (M_sizeFile x m hk (by omega) (by omega) id (by omega)) ?_
 rintro _ _ ⟨x_5, m_6, n_7, e_3, k_4, f_8, rfl, rfl⟩
 refine go ?_
 refine jD 4 (mc x_5 m_6) ?_
 refine go ?_
 by_cases h_9 : at_ < 0
 · refine go ?_
   refine jD 3 (mc x_5 m_6) ?_
   refine go ?_
   exact jQ [0, 0, 0] ⟨x_5, m_6, [], (by simp only [MS.readFile, Int.toNat_natCast, true_or, or_true, false_or, or_false, e_3, h_9, SB]; (repeat (first | rw [if_pos (by omega)] | rw [if_neg (by omega)])); all_goals (first | rfl | simp only [SB, e_3, h_9])), (k_4.mono (by omega) (by omega)), (by first | omega | (simp only [LE]; omega)), rfl, rfl⟩
 obtain ⟨a, hat⟩ : ∃ a : Nat, at_ = ((a : Nat) : Int) := ⟨at_.toNat, by omega⟩
 refine go ?_
 by_cases h_10 : n < 1
 · refine go ?_
   refine jD 3 (mc x_5 m_6) ?_
   refine go ?_
   exact jQ [0, 0, 0] ⟨x_5, m_6, [], (by simp only [MS.readFile, Int.toNat_natCast, true_or, or_true, false_or, or_false, e_3, h_9, hat, h_10, SB]; (repeat (first | rw [if_pos (by omega)] | rw [if_neg (by omega)])); all_goals (first | rfl | simp only [SB, e_3, h_9, hat, h_10])), (k_4.mono (by omega) (by omega)), (by first | omega | (simp only [LE]; omega)), rfl, rfl⟩
 first | refine kA 2 (v := nv a) (congrArg (Value.int .i64) hat) ?_ | refine jv 2 (v := nv a) (congrArg (Value.int .i64) hat) ?_ | refine kB 2 (v := nv a) (congrArg (Value.int .i64) hat) ?_ | refine kC 2 (v := nv a) (congrArg (Value.int .i64) hat) ?_
 refine go ?_
 by_cases h_11 : n_7 ≤ ((a : Nat) : Int)
 · refine go ?_
   refine jD 3 (mc x_5 m_6) ?_
   refine go ?_
   exact jQ [0, 0, 0] ⟨x_5, m_6, [], (by simp only [MS.readFile, Int.toNat_natCast, true_or, or_true, false_or, or_false, e_3, h_9, hat, h_10, h_11, SB]; (repeat (first | rw [if_pos (by omega)] | rw [if_neg (by omega)])); all_goals (first | rfl | simp only [SB, e_3, h_9, hat, h_10, h_11])), (k_4.mono (by omega) (by omega)), (by first | omega | (simp only [LE]; omega)), rfl, rfl⟩
 refine JC.condF (cB (dF h_11)) <| JC.skip <| jT <| jc <| jy ?_
 refine gQ ?_
 refine jb <| jT <| jc ?_
 refine JC.cut (fun e_ L_ => ∃ E : Nat, (((a : Nat) : Int) + min n (n_7 - ((a : Nat) : Int)) = (E : Int)) ∧ (a < E ∧ E ≤ 999) ∧ EL e_ [(1, iv id), (2, nv a), (4, .pointer (some ⟨b_1, 0, none⟩)), (8, .pointer (some ⟨b_2, 0, none⟩)), (9, str []), (11, nv E)] ∧ L_ = [rC x_5.a0 x_5.c0 m_6.s, rS x_5.a1 x_5.c1 m_6.r, rS x_5.a2 x_5.c2 m_6.w, bk b_2 60 zC, mb b_1 x_5 m_6]) ?_ ?_
 · refine go ?_
   refine jK (jg (c := n_7 - ((a : Nat) : Int)) rfl rfl (wr (by omega))) ?_
   refine go ?_
   by_cases h_12 : n < (n_7 - ((a : Nat) : Int))
   · refine go ?_
     exact jh [0, 0, 0, 0, 0] ⟨(((a : Nat) : Int) + n).toNat, (by omega), (by omega), (EL.cons rfl <| EL.cons rfl <| EL.cons rfl <| EL.cons rfl <| EL.cons rfl <| EL.cons (congrArg (Value.int .i64) (Int.toNat_of_nonneg (by omega)).symm) <| EL.go), rfl⟩
   refine go ?_
   exact jh [0, 0, 0, 0, 0] ⟨(n_7).toNat, (by omega), (by omega), (EL.cons rfl <| EL.cons rfl <| EL.cons rfl <| EL.cons rfl <| EL.cons rfl <| EL.cons (congrArg (Value.int .i64) (Int.toNat_of_nonneg (by omega)).symm) <| EL.go), rfl⟩
 rintro _ _ ⟨E, hE, hE3, ⟨_, rfl⟩, rfl⟩
 refine go ?_
 refine jF rfl (jR (ps := []) (cur := #[]) kN kg kj rfl (by kernel_rfl) (by decide) (by decide)) ?_
 rintro _ _ ⟨a_13, rfl, rfl⟩
 refine go ?_
 refine jL (fun k_ e_ L_ => ∃ p_ : Nat, ∃ x1 : MA, ∃ mm : MS, ∃ o_a : Option Addr, ∃ o_c : Nat, ∃ o_n : Nat, ∃ o_ : Str, (mm.ok (S) (T + 2 + p_)) ∧ (o_.length = o_n) ∧ (a / 8 ≤ p_ ∧ p_ ≤ 125) ∧ (o_.length + 8 * (a / 8) ≤ 8 * p_) ∧ (MS.readL id a E (130 - p_) p_ mm o_ = MS.readL id a E (130 - a / 8) (a / 8) m_6 []) ∧ EL e_ [(1, iv id), (2, nv a), (4, .pointer (some ⟨b_1, 0, none⟩)), (8, .pointer (some ⟨b_2, 0, none⟩)), (9, str []), (11, nv E), (12, .slice o_a o_n o_c), (13, nv p_)] ∧ L_ = [Res.row (.slice o_a o_n o_c) 5 1 o_n (o_.map encB), rC x1.a0 x1.c0 mm.s, rS x1.a1 x1.c1 mm.r, rS x1.a2 x1.c2 mm.w, bk b_2 60 zC, mb b_1 x1 mm] ∧ k_ = 126 - p_) _ ⟨(a / 8), x_5, m_6, a_13, 0, 0, ([] : List UInt8), (k_4.mono (by omega) (by omega)), (by first | rfl | omega | (simp only [List.length_append, List.length_cons, List.length_nil, List.length_set]; omega) | simp), (by omega), (by simp only [List.length_nil]; omega), rfl, EL.go, rfl, rfl⟩ ?_
 rintro _ _ _ ⟨p_, x1, mm, o_a, o_c, o_n, o_, hkmm, ho_n, hp0, ho, hR, ⟨_, rfl⟩, rfl, rfl⟩
 refine go ?_
 by_cases h_14 : ((p_ * 8 : Nat) : Int) < ((E : Nat) : Int)
 · refine go ?_
   refine jA [1, 1, 1] (M_block x1 mm hkmm (by omega) (by omega) id ((p_ : Nat) : Int) (by omega) (by omega)) ?_
   rintro _ _ ⟨x_17, m_18, u_19, e_15, k_16, f_20, rfl, rfl⟩
   refine go ?_
   refine jD 5 (mc x_17 m_18) ?_
   refine go ?_
   refine jL (fun k_ e_ L_ => ∃ i_ : Nat, ∃ q_a : Option Addr, ∃ q_c : Nat, ∃ q_n : Nat, ∃ q_ : Str, (q_.length = q_n) ∧ (i_ ≤ 8 ∧ i_ ≤ u_19.length) ∧ (q_ = o_ ++ piece u_19 (a - p_ * 8) (min (E - p_ * 8) i_)) ∧ (q_.length ≤ o_.length + i_) ∧ EL e_ [(1, iv id), (2, nv a), (4, .pointer (some ⟨b_1, 0, none⟩)), (8, .pointer (some ⟨b_2, 0, none⟩)), (9, str []), (11, nv E), (12, .slice q_a q_n q_c), (13, nv p_), (14, str u_19), (15, nv i_)] ∧ L_ = [rC x_17.a0 x_17.c0 m_18.s, rS x_17.a1 x_17.c1 m_18.r, rS x_17.a2 x_17.c2 m_18.w, Res.row (.slice q_a q_n q_c) 5 1 q_n (q_.map encB), bk b_2 60 zC, mb b_1 x_17 m_18] ∧ k_ = 8 - i_) _ ⟨0, o_a, o_c, o_n, o_, (by first | rfl | omega | (simp only [List.length_append, List.length_cons, List.length_nil, List.length_set]; omega) | simp), (by omega), (by rw [piece_nil (by omega), List.append_nil]), (by omega), EL.go, rfl, rfl⟩ ?_
   rintro _ _ _ ⟨i_, q_a, q_c, q_n, q_, hq_n, hi, hq, hql, ⟨_, rfl⟩, rfl, rfl⟩
   refine go ?_
   by_cases h_21 : ((i_ : Nat) : Int) < (u_19.length : Int)
   · refine go ?_
     by_cases h_22 : ((i_ : Nat) : Int) < 8
     · refine go ?_
       by_cases h_23 : ((a : Nat) : Int) ≤ (((p_ * 8) + i_ : Nat) : Int)
       · refine go ?_
         by_cases h_24 : (((p_ * 8) + i_ : Nat) : Int) < ((E : Nat) : Int)
         · refine go ?_
           have hu_25 := UInt8.toNat_lt (u_19.getD i_ 0)
           refine jF rfl (jR (ps := [(0, .int .u8 ((u_19.getD i_ 0).toNat : Int))]) (cur := #[.int .u8 ((u_19.getD i_ 0).toNat : Int)]) kN kg kj rfl (by kernel_rfl) (by decide) (by decide)) ?_
           rintro _ _ ⟨a_26, rfl, rfl⟩
           refine jF rfl (jX 4 (q := 1) (news := ([u_19.getD i_ 0] : List UInt8).map encB) (n' := (q_ ++ ([u_19.getD i_ 0] : List UInt8)).length) (cs' := (q_ ++ ([u_19.getD i_ 0] : List UInt8)).map encB) rfl kN kN Tryz.typeInfo5 rfl (by' := 1) rfl rfl rfl rfl rfl (fun w hw => Src.sees (hw.see (i := 0) rfl) (oneB _)) (by (try simp only [LE]); omega) (by (try simp only [LE]); omega) (by simp only [List.length_append, List.length_take, List.length_drop, List.length_cons, List.length_nil] <;> first | rfl | omega) (by simp only [List.map_append])) ?_
           rintro _ _ ⟨a_27, c_28, rfl, rfl⟩
           refine go ?_
           exact jP [1, 1, 1, 1, 1, 1] ⟨(i_ + 1), a_27, c_28, ((q_ ++ ([u_19.getD i_ 0] : List UInt8)).length), (q_ ++ ([u_19.getD i_ 0] : List UInt8)), (by first | rfl | omega | (simp only [List.length_append, List.length_cons, List.length_nil, List.length_set]; omega) | simp), (by omega), (by rw [hq, List.append_assoc, piece_yes (by omega) (by omega) (by omega)]), (by first | omega | (simp only [List.length_append, List.length_cons, List.length_nil]; omega)), EL.go, rfl, rfl⟩
         refine go ?_
         exact jP [0, 0, 0, 0, 0, 0] ⟨(i_ + 1), q_a, q_c, q_n, q_, (by first | rfl | omega | (simp only [List.length_append, List.length_cons, List.length_nil, List.length_set]; omega) | simp), (by omega), (by rw [hq, piece_no (by omega)]), (by first | omega | (simp only [List.length_append, List.length_cons, List.length_nil]; omega)), EL.go, rfl, rfl⟩
       refine go ?_
       exact jP [0, 0, 0, 0, 0, 0] ⟨(i_ + 1), q_a, q_c, q_n, q_, (by first | rfl | omega | (simp only [List.length_append, List.length_cons, List.length_nil, List.length_set]; omega) | simp), (by omega), (by rw [hq, piece_no (by omega)]), (by first | omega | (simp only [List.length_append, List.length_cons, List.length_nil]; omega)), EL.go, rfl, rfl⟩
     have ho2 : q_ = o_ ++ piece u_19 (a - p_ * 8) (min (min (E - p_ * 8) 8) u_19.length) := by rw [hq, show min (E - p_ * 8) i_ = min (min (E - p_ * 8) 8) u_19.length by omega]
     refine go ?_
     exact jP [3, 0, 0, 0, 0, 0] ⟨(p_ + 1), x_17, m_18, q_a, q_c, q_n, q_, (k_16.mono (by omega) (by omega)), (by first | rfl | omega | (simp only [List.length_append, List.length_cons, List.length_nil, List.length_set]; omega) | simp), (by omega), (by omega), (by rw [show 130 - p_ = (130 - (p_ + 1)) + 1 by omega, MS.readL, if_pos (by omega)] at hR; simp only [e_3, e_15] at hR; rw [← ho2] at hR; exact hR), EL.go, rfl, rfl⟩
   have ho2 : q_ = o_ ++ piece u_19 (a - p_ * 8) (min (min (E - p_ * 8) 8) u_19.length) := by rw [hq, show min (E - p_ * 8) i_ = min (min (E - p_ * 8) 8) u_19.length by omega]
   refine go ?_
   exact jP [3, 0, 0, 0, 0, 0] ⟨(p_ + 1), x_17, m_18, q_a, q_c, q_n, q_, (k_16.mono (by omega) (by omega)), (by first | rfl | omega | (simp only [List.length_append, List.length_cons, List.length_nil, List.length_set]; omega) | simp), (by omega), (by omega), (by rw [show 130 - p_ = (130 - (p_ + 1)) + 1 by omega, MS.readL, if_pos (by omega)] at hR; simp only [e_3, e_15] at hR; rw [← ho2] at hR; exact hR), EL.go, rfl, rfl⟩
 rw [MS.readL_stop (by omega)] at hR
 have hRE := hR.symm
 refine go ?_
 refine jH [5] 4 ?_
 refine go ?_
 repeat' first
   | refine jZ (i := 2) (j := 3) (by decide +kernel) ?_ ?_
   | refine jB (i := 3) ?_ (by decide +kernel)
   | refine jB (i := 2) ?_ (by decide +kernel)
   | (refine ja (i := 2) rfl rfl (jm (LO.toStr 0 o_ rfl kN kU kO rfl rfl)) ?_; rintro _ _ ⟨rfl, rfl⟩; refine ⟨all_go, ?_⟩; refine go ?_)
   | (refine jp (i := 3) 4 (mc x1 mm) ?_; refine go ?_)
   | exact jQ [1, 1, 1] ⟨x1, mm, o_, (by simp only [MS.readFile, Int.toNat_natCast, true_or, or_true, false_or, or_false, e_3, h_9, hat, h_10, h_11, hE, h_14, hRE, SB]; (repeat (first | rw [if_pos (by omega)] | rw [if_neg (by omega)])); all_goals (first | rfl | simp only [SB, e_3, h_9, hat, h_10, h_11, hE, h_14, hRE])), (hkmm.mono (by omega) (by omega)), (by first | omega | (simp only [LE]; omega)), rfl, rfl⟩

theorem N_writeFile (p : Nat) (x : MA) (m : MS) {S T : Nat} (hk : m.ok S T) (hS : S ≤ 300000000) (hT : T ≤ 1250000000) (id : Int) (at_ : Int) (text : Str) (hid : -9223372036854775808 ≤ id ∧ id ≤ 9223372036854775807) (hat_ : -9223372036854775808 ≤ at_ ∧ at_ ≤ 9223372036854775807) (htext : text.length ≤ 1000000000000) :
   Ct Tryz.prog 300 [.pointer (some ⟨p, 0, none⟩), .int .i64 id, .int .i64 at_, str text] (mb p x m :: mr x m) (fun w => HexOk w) (fun v A' => ∃ x' m' r0, MS.writeFile m id at_ text = (m', r0) ∧ m'.ok (S + 12) (T + 30) ∧ (0 ≤ r0 ∧ r0 ≤ 9) ∧ v = .int .i64 r0 ∧ A' = mb p x' m' :: mr x' m') := by
 refine Ct.introL Tryz.func300 rfl Tryz.ntmps300 (lb rfl) fun w0 hpre hlow => ?_
 refine go ?_
 refine jA [] (N_sizeKey id (by omega)) ?_
 rintro _ _ ⟨u_3, e_1, f_4, rfl, rfl⟩
 refine jA [0, 0, 0, 0] (N_num p x m hk (by omega) (by omega) u_3) ?_
 rintro _ _ ⟨x_7, m_8, n_9, e_5, k_6, f_10, rfl, rfl⟩
 refine go ?_
 refine jN [] (C_within at_ 0 n_9) ?_
 refine go ?_
 rcases Bool.eq_false_or_eq_true (decide (0 ≤ at_) && decide (at_ ≤ n_9)) with h_11 | h_11
 · have h_11d := h_11
   simp only [Bool.and_eq_true, Bool.and_eq_false_iff, decide_eq_true_eq, decide_eq_false_iff_not] at h_11d
   obtain ⟨a, hat⟩ : ∃ a : Nat, at_ = ((a : Nat) : Int) := ⟨at_.toNat, by omega⟩
   refine go ?_
   by_cases h_12 : text = []
   · have h_12l : text.length = 0 := by rw [h_12]; rfl
     refine go ?_
     refine jE (.inl rfl) rfl (jC (v := iv 4) rfl) (List.Sublist.refl _) ?_
     exact ⟨x_7, m_8, 4, (by simp only [MS.writeFile, List.length_nil, Int.toNat_natCast, true_or, or_true, false_or, or_false, MS.sizeOf, e_1, e_5, h_11, hat, h_12, SB]; (repeat (first | rw [if_pos (by omega)] | rw [if_neg (by omega)])); all_goals (first | rfl | simp only [SB, e_1, e_5, h_11, hat, h_12])), (k_6.mono (by omega) (by omega)), (by first | omega | (simp only [LE]; omega)), rfl, rfl⟩
   have h_12l := List.length_pos_iff.2 h_12
   first | refine kA 2 (v := nv a) (congrArg (Value.int .i64) hat) ?_ | refine jv 2 (v := nv a) (congrArg (Value.int .i64) hat) ?_ | refine kB 2 (v := nv a) (congrArg (Value.int .i64) hat) ?_ | refine kC 2 (v := nv a) (congrArg (Value.int .i64) hat) ?_
   refine go ?_
   by_cases h_13 : 64 < ((a + text.length : Nat) : Int)
   · refine go ?_
     refine jE (.inl rfl) rfl (jC (v := iv 3) rfl) (List.Sublist.refl _) ?_
     exact ⟨x_7, m_8, 3, (by simp only [MS.writeFile, List.length_nil, Int.toNat_natCast, true_or, or_true, false_or, or_false, MS.sizeOf, e_1, e_5, h_11, hat, h_12, h_13, SB]; (repeat (first | rw [if_pos (by omega)] | rw [if_neg (by omega)])); all_goals (first | rfl | simp only [SB, e_1, e_5, h_11, hat, h_12, h_13])), (k_6.mono (by omega) (by omega)), (by first | omega | (simp only [LE]; omega)), rfl, rfl⟩
   refine go ?_
   refine jL (fun k_ e_ L_ => ∃ p_ : Nat, ∃ x1 : MA, ∃ mm : MS, (mm.ok (S + p_) (T + 2 + 2 * p_)) ∧ (a / 8 ≤ p_ ∧ p_ ≤ 9) ∧ (MS.writeL id text a (a + text.length) (130 - p_) p_ mm = MS.writeL id text a (a + text.length) (130 - a / 8) (a / 8) m_8) ∧ EL e_ [(0, pv p), (1, iv id), (2, nv a), (3, str text), (8, iv 0), (9, iv n_9), (10, iv ((a + text.length : Nat) : Int)), (11, nv p_)] ∧ L_ = [mb p x1 mm, rC x1.a0 x1.c0 mm.s, rS x1.a1 x1.c1 mm.r, rS x1.a2 x1.c2 mm.w] ∧ k_ = 70 - p_) _ ⟨(a / 8), x_7, m_8, (k_6.mono (by omega) (by omega)), (by omega), rfl, EL.go, rfl, rfl⟩ ?_
   rintro _ _ _ ⟨p_, x1, mm, hkmm, hp0, hR, ⟨_, rfl⟩, rfl, rfl⟩
   refine go ?_
   by_cases h_14 : ((p_ * 8 : Nat) : Int) < ((a + text.length : Nat) : Int)
   · refine go ?_
     refine jA [0, 0, 0, 0] (N_block p x1 mm hkmm (by omega) (by omega) id ((p_ : Nat) : Int) (by omega) (by omega)) (hpre := fun w hw => hw.hex hlow hpre) ?_
     rintro _ _ ⟨x_17, m_18, u_19, e_15, k_16, f_20, rfl, rfl⟩
     refine jF rfl (JO.toBytes kO kN kU rfl (by unfold maxLen; omega)) ?_
     rintro _ _ ⟨a_21, c_22, rfl, rfl⟩
     refine go ?_
     refine jK (PO.max2 (c := ((max a (p_ * 8) : Nat) : Int)) rfl rfl (by omega)) ?_
     refine go ?_
     refine jL (fun k_ e_ L_ => ∃ j_ : Nat, ∃ bba : Option Addr, ∃ bbc : Nat, ∃ bbn : Nat, ∃ bb : Str, (bb.length = bbn) ∧ (max a (p_ * 8) ≤ j_ ∧ j_ ≤ min (a + text.length) (p_ * 8 + 8)) ∧ (bb = overTo text a (p_ * 8) u_19 (j_ - max a (p_ * 8))) ∧ (bb.length ≤ 20008) ∧ EL e_ [(0, pv p), (1, iv id), (2, nv a), (3, str text), (8, iv 0), (9, iv n_9), (10, iv ((a + text.length : Nat) : Int)), (11, nv p_), (12, .slice bba bbn bbc), (13, iv ((p_ * 8 : Nat) : Int)), (14, nv j_)] ∧ L_ = [Res.row (.slice bba bbn bbc) 5 1 bbn (bb.map encB), mb p x_17 m_18, rC x_17.a0 x_17.c0 m_18.s, rS x_17.a1 x_17.c1 m_18.r, rS x_17.a2 x_17.c2 m_18.w] ∧ k_ = 100 - j_) _ ⟨(max a (p_ * 8)), a_21, c_22, u_19.length, u_19, (by first | rfl | omega | (simp only [List.length_append, List.length_cons, List.length_nil, List.length_set]; omega) | simp), (by omega), (by rw [Nat.sub_self]; rfl), (by omega), EL.go, rfl, rfl⟩ ?_
     rintro _ _ _ ⟨j_, bba, bbc, bbn, bb, hbbn, hj, hb, hbl, ⟨_, rfl⟩, rfl, rfl⟩
     refine go ?_
     refine jK (PO.min2 (c := ((min (a + text.length) (p_ * 8 + 8) : Nat) : Int)) rfl rfl (by omega)) ?_
     refine go ?_
     by_cases h_23 : ((j_ : Nat) : Int) < ((min (a + text.length) (p_ * 8 + 8) : Nat) : Int)
     · refine go ?_
       refine jL (fun k_ e_ L_ => ∃ g_ : Nat, ∃ cca : Option Addr, ∃ ccc : Nat, ∃ ccn : Nat, ∃ cc : Str, (cc.length = ccn) ∧ (cc ++ List.replicate (j_ - p_ * 8 + 1 - cc.length) 0 = bb ++ List.replicate (j_ - p_ * 8 + 1 - bb.length) 0) ∧ (cc.length = bb.length + g_) ∧ EL e_ [(0, pv p), (1, iv id), (2, nv a), (3, str text), (8, iv 0), (9, iv n_9), (10, iv ((a + text.length : Nat) : Int)), (11, nv p_), (12, .slice cca ccn ccc), (13, iv ((p_ * 8 : Nat) : Int)), (14, nv j_)] ∧ L_ = [Res.row (.slice cca ccn ccc) 5 1 ccn (cc.map encB), mb p x_17 m_18, rC x_17.a0 x_17.c0 m_18.s, rS x_17.a1 x_17.c1 m_18.r, rS x_17.a2 x_17.c2 m_18.w] ∧ k_ = 21000 - g_) _ ⟨0, bba, bbc, bbn, bb, (by first | rfl | omega | (simp only [List.length_append, List.length_cons, List.length_nil, List.length_set]; omega) | simp), rfl, (by omega), EL.go, rfl, rfl⟩ ?_
       rintro _ _ _ ⟨g_, cca, ccc, ccn, cc, hccn, hc, hcl, ⟨_, rfl⟩, rfl, rfl⟩
       refine go ?_
       refine jK (jg (c := ((j_ - (p_ * 8) : Nat) : Int)) rfl rfl (wr (by omega))) ?_
       refine go ?_
       by_cases h_24 : ((ccn : Nat) : Int) ≤ ((j_ - (p_ * 8) : Nat) : Int)
       · refine go ?_
         refine jF rfl (jR (ps := [(0, .int .u8 0)]) (cur := #[.int .u8 0]) kN kg kj rfl (by kernel_rfl) (by decide) (by decide)) ?_
         rintro _ _ ⟨a_25, rfl, rfl⟩
         refine jF rfl (jX 1 (q := 1) (news := ([0] : List UInt8).map encB) (n' := (cc ++ ([0] : List UInt8)).length) (cs' := (cc ++ ([0] : List UInt8)).map encB) rfl kN kN Tryz.typeInfo5 rfl (by' := 1) rfl rfl rfl rfl rfl (fun w hw => Src.sees (hw.see (i := 0) rfl) (oneB _)) (by (try simp only [LE]); omega) (by (try simp only [LE]); omega) (by simp only [List.length_append, List.length_take, List.length_drop, List.length_cons, List.length_nil] <;> first | rfl | omega) (by simp only [List.map_append])) ?_
         rintro _ _ ⟨a_26, c_27, rfl, rfl⟩
         refine go ?_
         exact jP [1, 1, 1, 1, 1] ⟨(g_ + 1), a_26, c_27, ((cc ++ ([0] : List UInt8)).length), (cc ++ ([0] : List UInt8)), (by first | rfl | omega | (simp only [List.length_append, List.length_cons, List.length_nil, List.length_set]; omega) | simp), (by rw [List.length_append, ← hc]; exact pad_step (by omega)), (by simp only [List.length_append, List.length_cons, List.length_nil]; omega), EL.go, rfl, rfl⟩
       have hcd : cc = bb ++ List.replicate (j_ - p_ * 8 + 1 - bb.length) 0 := by rw [← hc, show j_ - p_ * 8 + 1 - cc.length = 0 by omega]; simp
       refine go ?_
       refine jK (jg (c := ((j_ - (p_ * 8) : Nat) : Int)) rfl rfl (wr (by omega))) ?_
       refine go ?_
       refine jK (jg (c := ((j_ - a : Nat) : Int)) rfl rfl (wr (by omega))) ?_
       refine go ?_
       have hu_28 := UInt8.toNat_lt (text.getD (j_ - a) 0)
       refine jo fun hst => ?_
       obtain ⟨hr_29, hr_29b, -⟩ := row_some 0 rfl (by omega) hst
       refine go ?_
       refine jF rfl (jx 0 (vs := [.int .u8 ((text.getD (j_ - a) 0).toNat : Int)]) (cs' := (cc.set (j_ - (p_ * 8)) (text.getD (j_ - a) 0)).map encB) rfl rfl rfl rfl kg rfl rfl (by decide) (by rw [List.length_map]; omega) (setB (by omega))) ?_
       rintro _ _ rfl
       refine go ?_
       exact jP [0, 0, 0, 0, 0] ⟨(j_ + 1), cca, ccc, ccn, (cc.set (j_ - (p_ * 8)) (text.getD (j_ - a) 0)), (by first | rfl | omega | (simp only [List.length_append, List.length_cons, List.length_nil, List.length_set]; omega) | simp), (by omega), (overTo_step (by omega) hb hcd), (by have hl_ := congrArg List.length hcd; simp only [List.length_append, List.length_replicate] at hl_; simp only [List.length_set]; omega), EL.go, rfl, rfl⟩
     have hb2 : overTo text a (p_ * 8) u_19 (min (a + text.length) (p_ * 8 + 8) - max a (p_ * 8)) = bb := by rw [hb, show j_ - max a (p_ * 8) = min (a + text.length) (p_ * 8 + 8) - max a (p_ * 8) by omega]
     refine go ?_
     refine jH [] 1000 ?_
     refine go ?_
     repeat' first
       | refine jZ (i := 3) (j := 5) (by decide +kernel) ?_ ?_
       | refine jB (i := 5) ?_ (by decide +kernel)
       | refine jB (i := 6) ?_ (by decide +kernel)
       | refine jB (i := 7) ?_ (by decide +kernel)
       | refine jB (i := 3) ?_ (by decide +kernel)
       | (refine jI (i := 3) [] (N_blockKey id ((p_ : Nat) : Int) (by omega) (by omega)) ?_; rintro _ _ ⟨u_40, e_38, f_41, rfl, rfl⟩)
       | (refine ja (i := 5) rfl rfl (jm (LO.toStr 0 bb rfl kN kU kO rfl rfl)) ?_; rintro _ _ ⟨rfl, rfl⟩; refine ⟨all_go, ?_⟩)
       | (refine jI (i := 6) [] (N_hexOf bb (by omega)) ?_; rintro _ _ ⟨u_48, e_46, f_49, rfl, rfl⟩)
       | (refine jI (i := 7) [1, 1, 1, 1] (N_lay p x_17 m_18 k_16 (by omega) (by omega) u_40 u_48 (by omega)) ?_; rintro _ _ ⟨x_56, m_57, e_54, k_55, rfl, rfl⟩; refine go ?_)
       | exact jP [0, 0, 0, 0] ⟨(p_ + 1), x_56, m_57, (k_55.mono (by omega) (by omega)), (by omega), (by rw [show 130 - p_ = (130 - (p_ + 1)) + 1 by omega, MS.writeL, if_pos (by omega)] at hR; simp only [MS.blockKey, e_1, e_5, e_15, e_38, e_46, e_54, hb2] at hR; exact hR), EL.go, rfl, rfl⟩
   rw [MS.writeL_stop (by omega)] at hR
   have hRE := hR.symm
   refine go ?_
   by_cases h_82 : n_9 < ((a + text.length : Nat) : Int)
   · refine go ?_
     refine jA [] (N_sizeKey id (by omega)) ?_
     rintro _ _ ⟨u_85, e_83, f_86, rfl, rfl⟩
     have hqe_83 := e_1.symm.trans e_83
     subst hqe_83
     refine go ?_
     refine jA [0, 0, 0, 0] (N_setNum p x1 mm hkmm (by omega) (by omega) u_3 ((a + text.length : Nat) : Int) (by omega) (by omega)) ?_
     rintro _ _ ⟨x_89, m_90, e_87, k_88, rfl, rfl⟩
     refine go ?_
     refine jE (.inl rfl) rfl (jC (v := iv 0) rfl) (List.Sublist.refl _) ?_
     exact ⟨x_89, m_90, 0, (by simp only [MS.writeFile, List.length_nil, Int.toNat_natCast, true_or, or_true, false_or, or_false, MS.sizeOf, e_1, e_5, h_11, hat, h_12, h_13, h_14, hRE, h_82, e_87, SB]; (repeat (first | rw [if_pos (by omega)] | rw [if_neg (by omega)])); all_goals (first | rfl | simp only [SB, e_1, e_5, h_11, hat, h_12, h_13, h_14, hRE, h_82, e_87])), (k_88.mono (by omega) (by omega)), (by first | omega | (simp only [LE]; omega)), rfl, rfl⟩
   refine go ?_
   refine jE (.inl rfl) rfl (jC (v := iv 0) rfl) (List.Sublist.refl _) ?_
   exact ⟨x1, mm, 0, (by simp only [MS.writeFile, List.length_nil, Int.toNat_natCast, true_or, or_true, false_or, or_false, MS.sizeOf, e_1, e_5, h_11, hat, h_12, h_13, h_14, hRE, h_82, SB]; (repeat (first | rw [if_pos (by omega)] | rw [if_neg (by omega)])); all_goals (first | rfl | simp only [SB, e_1, e_5, h_11, hat, h_12, h_13, h_14, hRE, h_82])), (hkmm.mono (by omega) (by omega)), (by first | omega | (simp only [LE]; omega)), rfl, rfl⟩
 have h_11d := h_11
 simp only [Bool.and_eq_true, Bool.and_eq_false_iff, decide_eq_true_eq, decide_eq_false_iff_not] at h_11d
 refine go ?_
 refine jE (.inl rfl) rfl (jC (v := iv 4) rfl) (List.Sublist.refl _) ?_
 exact ⟨x_7, m_8, 4, (by simp only [MS.writeFile, List.length_nil, Int.toNat_natCast, true_or, or_true, false_or, or_false, MS.sizeOf, e_1, e_5, h_11, SB]; (repeat (first | rw [if_pos (by omega)] | rw [if_neg (by omega)])); all_goals (first | rfl | simp only [SB, e_1, e_5, h_11])), (k_6.mono (by omega) (by omega)), (by first | omega | (simp only [LE]; omega)), rfl, rfl⟩

theorem M_writeFile (x : MA) (m : MS) {S T : Nat} (hk : m.ok S T) (hS : S ≤ 300000000) (hT : T ≤ 1250000000) (id : Int) (at_ : Int) (text : Str) (hid : -9223372036854775808 ≤ id ∧ id ≤ 9223372036854775807) (hat_ : -9223372036854775808 ≤ at_ ∧ at_ ≤ 9223372036854775807) (htext : text.length ≤ 1000000000000) :
   Ct Tryz.prog 316 [mv x m, .int .i64 id, .int .i64 at_, str text] (mr x m) (fun _ => True) (fun v A' => ∃ x' m' r0, MS.writeFile m id at_ text = (m', r0) ∧ m'.ok (S + 12) (T + 30) ∧ (0 ≤ r0 ∧ r0 ≤ 9) ∧ v = .tuple #[mv x' m', .int .i64 r0] ∧ A' = mr x' m') := by
 refine Ct.intro Tryz.func316 rfl Tryz.ntmps316 (lb rfl) fun w0 hpre => ?_
 refine go ?_
 refine jM (mc x m) fun b_1 => ?_
 refine jG zC fun b_2 => ?_
 refine go ?_
 refine jA [2, 2, 2] (M_sizeFile x m hk (by omega) (by omega) id (by omega)) ?_
 rintro _ _ ⟨x_5, m_6, n_7, e_3, k_4, f_8, rfl, rfl⟩
 refine go ?_
 refine jD 4 (mc x_5 m_6) ?_
 refine go ?_
 refine jN [] (C_l01In at_ 0 n_7) ?_
 refine go ?_
 rcases Bool.eq_false_or_eq_true (decide (0 ≤ at_) && decide (at_ ≤ n_7)) with h_9 | h_9
 · have h_9d := h_9
   simp only [Bool.and_eq_true, Bool.and_eq_false_iff, decide_eq_true_eq, decide_eq_false_iff_not] at h_9d
   obtain ⟨a, hat⟩ : ∃ a : Nat, at_ = ((a : Nat) : Int) := ⟨at_.toNat, by omega⟩
   refine go ?_
   by_cases h_10 : text = []
   · have h_10l : text.length = 0 := by rw [h_10]; rfl
     refine go ?_
     refine jD 3 (mc x_5 m_6) ?_
     refine go ?_
     exact jQ [0, 0, 0] ⟨x_5, m_6, 4, (by simp only [MS.writeFile, List.length_nil, Int.toNat_natCast, true_or, or_true, false_or, or_false, e_3, h_9, hat, h_10, SB]; (repeat (first | rw [if_pos (by omega)] | rw [if_neg (by omega)])); all_goals (first | rfl | simp only [SB, e_3, h_9, hat, h_10])), (k_4.mono (by omega) (by omega)), (by first | omega | (simp only [LE]; omega)), rfl, rfl⟩
   have h_10l := List.length_pos_iff.2 h_10
   first | refine kA 2 (v := nv a) (congrArg (Value.int .i64) hat) ?_ | refine jv 2 (v := nv a) (congrArg (Value.int .i64) hat) ?_ | refine kB 2 (v := nv a) (congrArg (Value.int .i64) hat) ?_ | refine kC 2 (v := nv a) (congrArg (Value.int .i64) hat) ?_
   refine go ?_
   by_cases h_11 : 64 < ((a + text.length : Nat) : Int)
   · refine go ?_
     refine jD 3 (mc x_5 m_6) ?_
     refine go ?_
     exact jQ [0, 0, 0] ⟨x_5, m_6, 3, (by simp only [MS.writeFile, List.length_nil, Int.toNat_natCast, true_or, or_true, false_or, or_false, e_3, h_9, hat, h_10, h_11, SB]; (repeat (first | rw [if_pos (by omega)] | rw [if_neg (by omega)])); all_goals (first | rfl | simp only [SB, e_3, h_9, hat, h_10, h_11])), (k_4.mono (by omega) (by omega)), (by first | omega | (simp only [LE]; omega)), rfl, rfl⟩
   refine go ?_
   refine jL (fun k_ e_ L_ => ∃ p_ : Nat, ∃ x1 : MA, ∃ mm : MS, (mm.ok (S + p_) (T + 2 + 2 * p_)) ∧ (a / 8 ≤ p_ ∧ p_ ≤ 9) ∧ (MS.writeL id text a (a + text.length) (130 - p_) p_ mm = MS.writeL id text a (a + text.length) (130 - a / 8) (a / 8) m_6) ∧ EL e_ [(1, iv id), (2, nv a), (3, str text), (4, .pointer (some ⟨b_1, 0, none⟩)), (8, .pointer (some ⟨b_2, 0, none⟩)), (9, iv 0), (10, iv n_7), (11, iv ((a + text.length : Nat) : Int)), (12, nv p_)] ∧ L_ = [rC x1.a0 x1.c0 mm.s, rS x1.a1 x1.c1 mm.r, rS x1.a2 x1.c2 mm.w, bk b_2 60 zC, mb b_1 x1 mm] ∧ k_ = 70 - p_) _ ⟨(a / 8), x_5, m_6, (k_4.mono (by omega) (by omega)), (by omega), rfl, EL.go, rfl, rfl⟩ ?_
   rintro _ _ _ ⟨p_, x1, mm, hkmm, hp0, hR, ⟨_, rfl⟩, rfl, rfl⟩
   refine go ?_
   by_cases h_12 : ((p_ * 8 : Nat) : Int) < ((a + text.length : Nat) : Int)
   · refine go ?_
     refine jA [0, 0, 0] (M_block x1 mm hkmm (by omega) (by omega) id ((p_ : Nat) : Int) (by omega) (by omega)) ?_
     rintro _ _ ⟨x_15, m_16, u_17, e_13, k_14, f_18, rfl, rfl⟩
     refine go ?_
     refine jD 4 (mc x_15 m_16) ?_
     refine go ?_
     refine jF rfl (JO.toBytes kO kN kU rfl (by unfold maxLen; omega)) ?_
     rintro _ _ ⟨a_19, c_20, rfl, rfl⟩
     refine go ?_
     refine jL (fun k_ e_ L_ => ∃ i_ : Nat, ∃ bba : Option Addr, ∃ bbc : Nat, ∃ bbn : Nat, ∃ bb : Str, (bb.length = bbn) ∧ (i_ ≤ 8) ∧ (bb = overTo text a (p_ * 8) u_17 (min (a + text.length) (p_ * 8 + i_) - max a (p_ * 8))) ∧ (bb.length ≤ 20008) ∧ EL e_ [(1, iv id), (2, nv a), (3, str text), (4, .pointer (some ⟨b_1, 0, none⟩)), (8, .pointer (some ⟨b_2, 0, none⟩)), (9, iv 0), (10, iv n_7), (11, iv ((a + text.length : Nat) : Int)), (12, nv p_), (14, .slice bba bbn bbc), (15, nv i_)] ∧ L_ = [Res.row (.slice bba bbn bbc) 5 1 bbn (bb.map encB), rC x_15.a0 x_15.c0 m_16.s, rS x_15.a1 x_15.c1 m_16.r, rS x_15.a2 x_15.c2 m_16.w, bk b_2 60 zC, mb b_1 x_15 m_16] ∧ k_ = 8 - i_) _ ⟨0, a_19, c_20, u_17.length, u_17, (by first | rfl | omega | (simp only [List.length_append, List.length_cons, List.length_nil, List.length_set]; omega) | simp), (by omega), (by rw [show min (a + text.length) (p_ * 8 + 0) - max a (p_ * 8) = 0 by omega]; rfl), (by omega), EL.go, rfl, rfl⟩ ?_
     rintro _ _ _ ⟨i_, bba, bbc, bbn, bb, hbbn, hi, hb, hbl, ⟨_, rfl⟩, rfl, rfl⟩
     refine go ?_
     by_cases h_21 : ((i_ : Nat) : Int) < 8
     · refine go ?_
       by_cases h_22 : (((p_ * 8) + i_ : Nat) : Int) < ((a : Nat) : Int)
       · refine go ?_
         exact jP [0, 0, 0, 0, 0, 0] ⟨(i_ + 1), bba, bbc, bbn, bb, (by first | rfl | omega | (simp only [List.length_append, List.length_cons, List.length_nil, List.length_set]; omega) | simp), (by omega), (by rw [hb, show min (a + text.length) (p_ * 8 + (i_ + 1)) - max a (p_ * 8) = min (a + text.length) (p_ * 8 + i_) - max a (p_ * 8) by omega]), (by omega), EL.go, rfl, rfl⟩
       refine go ?_
       by_cases h_23 : ((a + text.length : Nat) : Int) ≤ (((p_ * 8) + i_ : Nat) : Int)
       · refine go ?_
         exact jP [0, 0, 0, 0, 0, 0] ⟨(i_ + 1), bba, bbc, bbn, bb, (by first | rfl | omega | (simp only [List.length_append, List.length_cons, List.length_nil, List.length_set]; omega) | simp), (by omega), (by rw [hb, show min (a + text.length) (p_ * 8 + (i_ + 1)) - max a (p_ * 8) = min (a + text.length) (p_ * 8 + i_) - max a (p_ * 8) by omega]), (by omega), EL.go, rfl, rfl⟩
       refine go ?_
       refine jL (fun k_ e_ L_ => ∃ g_ : Nat, ∃ cca : Option Addr, ∃ ccc : Nat, ∃ ccn : Nat, ∃ cc : Str, (cc.length = ccn) ∧ (cc ++ List.replicate (i_ + 1 - cc.length) 0 = bb ++ List.replicate (i_ + 1 - bb.length) 0) ∧ (cc.length = bb.length + g_) ∧ EL e_ [(1, iv id), (2, nv a), (3, str text), (4, .pointer (some ⟨b_1, 0, none⟩)), (8, .pointer (some ⟨b_2, 0, none⟩)), (9, iv 0), (10, iv n_7), (11, iv ((a + text.length : Nat) : Int)), (12, nv p_), (14, .slice cca ccn ccc), (15, nv i_), (16, iv (((p_ * 8) + i_ : Nat) : Int))] ∧ L_ = [Res.row (.slice cca ccn ccc) 5 1 ccn (cc.map encB), rC x_15.a0 x_15.c0 m_16.s, rS x_15.a1 x_15.c1 m_16.r, rS x_15.a2 x_15.c2 m_16.w, bk b_2 60 zC, mb b_1 x_15 m_16] ∧ k_ = 21000 - g_) _ ⟨0, bba, bbc, bbn, bb, (by first | rfl | omega | (simp only [List.length_append, List.length_cons, List.length_nil, List.length_set]; omega) | simp), rfl, (by omega), EL.go, rfl, rfl⟩ ?_
       rintro _ _ _ ⟨g_, cca, ccc, ccn, cc, hccn, hc, hcl, ⟨_, rfl⟩, rfl, rfl⟩
       refine go ?_
       by_cases h_24 : ((ccn : Nat) : Int) ≤ ((i_ : Nat) : Int)
       · refine go ?_
         refine jF rfl (jR (ps := [(0, .int .u8 0)]) (cur := #[.int .u8 0]) kN kg kj rfl (by kernel_rfl) (by decide) (by decide)) ?_
         rintro _ _ ⟨a_25, rfl, rfl⟩
         refine jF rfl (jX 1 (q := 1) (news := ([0] : List UInt8).map encB) (n' := (cc ++ ([0] : List UInt8)).length) (cs' := (cc ++ ([0] : List UInt8)).map encB) rfl kN kN Tryz.typeInfo5 rfl (by' := 1) rfl rfl rfl rfl rfl (fun w hw => Src.sees (hw.see (i := 0) rfl) (oneB _)) (by (try simp only [LE]); omega) (by (try simp only [LE]); omega) (by simp only [List.length_append, List.length_take, List.length_drop, List.length_cons, List.length_nil] <;> first | rfl | omega) (by simp only [List.map_append])) ?_
         rintro _ _ ⟨a_26, c_27, rfl, rfl⟩
         refine go ?_
         exact jP [1, 1, 1, 1, 1, 1] ⟨(g_ + 1), a_26, c_27, ((cc ++ ([0] : List UInt8)).length), (cc ++ ([0] : List UInt8)), (by first | rfl | omega | (simp only [List.length_append, List.length_cons, List.length_nil, List.length_set]; omega) | simp), (by rw [List.length_append, ← hc]; exact pad_step (by omega)), (by simp only [List.length_append, List.length_cons, List.length_nil]; omega), EL.go, rfl, rfl⟩
       have hcd : cc = bb ++ List.replicate (p_ * 8 + i_ - p_ * 8 + 1 - bb.length) 0 := by rw [show p_ * 8 + i_ - p_ * 8 = i_ by omega, ← hc, show i_ + 1 - cc.length = 0 by omega]; simp
       refine go ?_
       refine jK (jg (c := ((((p_ * 8) + i_) - a : Nat) : Int)) rfl rfl (wr (by omega))) ?_
       refine go ?_
       have hu_28 := UInt8.toNat_lt (text.getD (((p_ * 8) + i_) - a) 0)
       refine jo fun hst => ?_
       obtain ⟨hr_29, hr_29b, -⟩ := row_some 0 rfl (by omega) hst
       refine go ?_
       refine jF rfl (jx 0 (vs := [.int .u8 ((text.getD (((p_ * 8) + i_) - a) 0).toNat : Int)]) (cs' := (cc.set i_ (text.getD (((p_ * 8) + i_) - a) 0)).map encB) rfl rfl rfl rfl kg rfl rfl (by decide) (by rw [List.length_map]; omega) (setB (by omega))) ?_
       rintro _ _ rfl
       refine go ?_
       exact jP [0, 0, 0, 0, 0, 0] ⟨(i_ + 1), cca, ccc, ccn, (cc.set i_ (text.getD (((p_ * 8) + i_) - a) 0)), (by first | rfl | omega | (simp only [List.length_append, List.length_cons, List.length_nil, List.length_set]; omega) | simp), (by omega), (by have h3_ := overTo_step (text := text) (a := a) (f := p_ * 8) (j := p_ * 8 + i_) (by omega) (hb.trans (by rw [show min (a + text.length) (p_ * 8 + i_) - max a (p_ * 8) = p_ * 8 + i_ - max a (p_ * 8) by omega])) hcd; rw [show p_ * 8 + i_ - p_ * 8 = i_ by omega, show p_ * 8 + i_ + 1 - max a (p_ * 8) = min (a + text.length) (p_ * 8 + (i_ + 1)) - max a (p_ * 8) by omega] at h3_; exact h3_), (by have hl_ := congrArg List.length hcd; simp only [List.length_append, List.length_replicate] at hl_; simp only [List.length_set]; omega), EL.go, rfl, rfl⟩
     have hb2 : overTo text a (p_ * 8) u_17 (min (a + text.length) (p_ * 8 + 8) - max a (p_ * 8)) = bb := by rw [hb, show i_ = 8 by omega]
     refine go ?_
     refine jU (LO.toStr 0 bb rfl kN kU kO rfl rfl) ?_
     refine jA [1, 1, 1] (M_layBlock x_15 m_16 k_14 (by omega) (by omega) id ((p_ : Nat) : Int) bb (by omega) (by omega) (by omega)) ?_
     rintro _ _ ⟨x_32, m_33, e_30, k_31, rfl, rfl⟩
     refine jD 5 (mc x_32 m_33) ?_
     refine go ?_
     exact jP [0, 0, 0, 1, 1] ⟨(p_ + 1), x_32, m_33, (k_31.mono (by omega) (by omega)), (by omega), (by rw [show 130 - p_ = (130 - (p_ + 1)) + 1 by omega, MS.writeL, if_pos (by omega)] at hR; simp only [MS.blockKey, e_3, e_13, e_30, hb2] at hR; exact hR), EL.go, rfl, rfl⟩
   rw [MS.writeL_stop (by omega)] at hR
   have hRE := hR.symm
   refine go ?_
   by_cases h_34 : n_7 < ((a + text.length : Nat) : Int)
   · refine go ?_
     refine jH [4] 4 ?_
     refine go ?_
     refine jB (i := 2) ?_
     refine jI [] (N_sKeyNum [105, 47] id [47, 115] (show List.length ([105, 47] : Str) ≤ 2 by decide) (by omega) (show List.length ([47, 115] : Str) ≤ 2 by decide) (by omega)) ?_
     rintro _ _ ⟨u_45, e_43, f_46, rfl, rfl⟩
     refine jB (i := 4) ?_
     refine kE [0, 0, 0] (N_sSetNum x1 mm hkmm (by omega) (by omega) u_45 ((a + text.length : Nat) : Int) (by omega) (by omega)) ?_
     rintro _ _ ⟨x_53, m_54, e_51, k_52, rfl, rfl⟩
     refine jB (i := 5) ?_
     refine jS 4 (mc x_53 m_54) ?_
     refine go ?_
     refine jD 3 (mc x_53 m_54) ?_
     refine go ?_
     exact jQ [0, 0, 0] ⟨x_53, m_54, 0, (by simp only [MS.writeFile, List.length_nil, Int.toNat_natCast, true_or, or_true, false_or, or_false, e_3, h_9, hat, h_10, h_11, h_12, hRE, h_34, e_43, e_51, SB]; (repeat (first | rw [if_pos (by omega)] | rw [if_neg (by omega)])); all_goals (first | rfl | simp only [SB, e_3, h_9, hat, h_10, h_11, h_12, hRE, h_34, e_43, e_51])), (k_52.mono (by omega) (by omega)), (by first | omega | (simp only [LE]; omega)), rfl, rfl⟩
   refine go ?_
   refine jD 3 (mc x1 mm) ?_
   refine go ?_
   exact jQ [0, 0, 0] ⟨x1, mm, 0, (by simp only [MS.writeFile, List.length_nil, Int.toNat_natCast, true_or, or_true, false_or, or_false, e_3, h_9, hat, h_10, h_11, h_12, hRE, h_34, SB]; (repeat (first | rw [if_pos (by omega)] | rw [if_neg (by omega)])); all_goals (first | rfl | simp only [SB, e_3, h_9, hat, h_10, h_11, h_12, hRE, h_34])), (hkmm.mono (by omega) (by omega)), (by first | omega | (simp only [LE]; omega)), rfl, rfl⟩
 have h_9d := h_9
 simp only [Bool.and_eq_true, Bool.and_eq_false_iff, decide_eq_true_eq, decide_eq_false_iff_not] at h_9d
 refine go ?_
 refine jD 3 (mc x_5 m_6) ?_
 refine go ?_
 exact jQ [0, 0, 0] ⟨x_5, m_6, 4, (by simp only [MS.writeFile, List.length_nil, Int.toNat_natCast, true_or, or_true, false_or, or_false, e_3, h_9, SB]; (repeat (first | rw [if_pos (by omega)] | rw [if_neg (by omega)])); all_goals (first | rfl | simp only [SB, e_3, h_9])), (k_4.mono (by omega) (by omega)), (by first | omega | (simp only [LE]; omega)), rfl, rfl⟩

theorem N_brought (x y : Nat) :
   Ct Tryz.prog 356 [.int .i64 ((x : Nat) : Int), .int .i64 0, .int .i64 ((y : Nat) : Int)] [] (fun _ => True) (fun v A' => v = .int .i64 ((min x y : Nat) : Int) ∧ A' = []) := by
 refine Ct.intro Tryz.func356 rfl Tryz.ntmps356 (lb rfl) fun w0 hpre => ?_
 refine go ?_
 by_cases h_1 : ((y : Nat) : Int) < 0
 · refine go ?_
   refine jE (.inl rfl) rfl (jC (v := iv 0) rfl) (List.nil_sublist _) ?_
   refine ⟨?_, rfl⟩
   exact congrArg (Value.int .i64) (by omega)
 refine go ?_
 by_cases h_2 : ((x : Nat) : Int) < 0
 · refine go ?_
   refine jE (.inl rfl) rfl (jC (v := iv 0) rfl) (List.nil_sublist _) ?_
   refine ⟨?_, rfl⟩
   exact congrArg (Value.int .i64) (by omega)
 refine go ?_
 by_cases h_3 : ((y : Nat) : Int) < ((x : Nat) : Int)
 · refine go ?_
   refine jE (.inl rfl) rfl (jC (v := nv y) rfl) (List.nil_sublist _) ?_
   refine ⟨?_, rfl⟩
   exact congrArg (Value.int .i64) (by omega)
 refine go ?_
 refine jE (.inl rfl) rfl (jC (v := nv x) rfl) (List.nil_sublist _) ?_
 refine ⟨?_, rfl⟩
 exact congrArg (Value.int .i64) (by omega)

theorem N_cutFile (p : Nat) (x : MA) (m : MS) {S T : Nat} (hk : m.ok S T) (hS : S ≤ 300000000) (hT : T ≤ 1250000000) (id : Int) (n : Int) (hid : -9223372036854775808 ≤ id ∧ id ≤ 9223372036854775807) (hn : -9223372036854775808 ≤ n ∧ n ≤ 9223372036854775807) :
   Ct Tryz.prog 301 [.pointer (some ⟨p, 0, none⟩), .int .i64 id, .int .i64 n] (mb p x m :: mr x m) (fun w => HexOk w) (fun v A' => ∃ x' m' r0, MS.cutFile m id n = (m', r0) ∧ m'.ok (S + 3) (T + 140) ∧ (0 ≤ r0 ∧ r0 ≤ 9) ∧ v = .int .i64 r0 ∧ A' = mb p x' m' :: mr x' m') := by
 refine Ct.introL Tryz.func301 rfl Tryz.ntmps301 (lb rfl) fun w0 hpre hlow => ?_
 refine go ?_
 refine jA [] (N_sizeKey id (by omega)) ?_
 rintro _ _ ⟨u_3, e_1, f_4, rfl, rfl⟩
 refine jA [0, 0, 0, 0] (N_num p x m hk (by omega) (by omega) u_3) ?_
 rintro _ _ ⟨x_7, m_8, n_9, e_5, k_6, f_10, rfl, rfl⟩
 refine go ?_
 refine jN [] (C_within n 0 n_9) ?_
 refine go ?_
 rcases Bool.eq_false_or_eq_true (decide (0 ≤ n) && decide (n ≤ n_9)) with h_11 | h_11
 · have h_11d := h_11
   simp only [Bool.and_eq_true, Bool.and_eq_false_iff, decide_eq_true_eq, decide_eq_false_iff_not] at h_11d
   obtain ⟨a, hat⟩ : ∃ a : Nat, n = ((a : Nat) : Int) := ⟨n.toNat, by omega⟩
   obtain ⟨Z, hZ⟩ : ∃ Z : Nat, n_9 = ((Z : Nat) : Int) := ⟨n_9.toNat, by omega⟩
   first | refine kA 2 (v := nv a) (congrArg (Value.int .i64) hat) ?_ | refine jv 2 (v := nv a) (congrArg (Value.int .i64) hat) ?_ | refine kB 2 (v := nv a) (congrArg (Value.int .i64) hat) ?_ | refine kC 2 (v := nv a) (congrArg (Value.int .i64) hat) ?_
   refine go ?_
   by_cases h_12 : 0 < ((a % 8 : Nat) : Int)
   · refine go ?_
     refine jA [0, 0, 0, 0] (N_block p x_7 m_8 k_6 (by omega) (by omega) id ((a / 8 : Nat) : Int) (by omega) (by omega)) (hpre := fun w hw => hw.hex hlow hpre) ?_
     rintro _ _ ⟨x_15, m_16, u_17, e_13, k_14, f_18, rfl, rfl⟩
     refine go ?_
     refine jH [] 11 ?_
     refine go ?_
     refine jd 9 rfl (PO.min2 (c := ((min (a % 8) u_17.length : Nat) : Int)) rfl rfl (by omega)) <| jd 10 rfl (PO.sliceSh (j := (min (a % 8) u_17.length)) kO rfl rfl (by omega)) ?_
     refine jB (i := 3) ?_
     refine jI [] (N_blockKey id ((a / 8 : Nat) : Int) (by omega) (by omega)) ?_
     rintro _ _ ⟨u_53, e_51, f_54, rfl, rfl⟩
     refine jB (i := 11) ?_
     refine kE [] (N_hexOf (u_17.take (min (a % 8) u_17.length)) (by first | omega | (simp only [LE]; omega))) ?_
     rintro _ _ ⟨u_61, e_59, f_62, rfl, rfl⟩
     refine jB (i := 12) ?_
     refine JX.ce [0, 0, 0, 0] (N_lay p x_15 m_16 k_14 (by omega) (by omega) u_53 u_61 (by omega)) ?_
     rintro _ _ ⟨x_69, m_70, e_67, k_68, rfl, rfl⟩
     refine go ?_
     refine jL (fun k_ e_ L_ => ∃ p_ : Nat, ∃ x1 : MA, ∃ mm : MS, (mm.ok (S + 1) (T + 4 + p_)) ∧ (p_ ≤ 126) ∧ (MS.cutL id Z (130 - p_) p_ mm = MS.cutL id Z (130 - ((a / 8) + 1)) ((a / 8) + 1) m_70) ∧ EL e_ [(0, pv p), (1, iv id), (2, nv a), (6, iv 0), (7, nv Z), (8, nv p_)] ∧ L_ = [mb p x1 mm, rC x1.a0 x1.c0 mm.s, rS x1.a1 x1.c1 mm.r, rS x1.a2 x1.c2 mm.w] ∧ k_ = 130 - p_) _ ⟨((a / 8) + 1), x_69, m_70, (k_68.mono (by omega) (by omega)), (by omega), rfl, (EL.cons rfl <| EL.cons rfl <| EL.cons rfl <| EL.cons rfl <| EL.cons (congrArg (Value.int .i64) hZ) <| EL.go), rfl, rfl⟩ ?_
     rintro _ _ _ ⟨p_, x1, mm, hkmm, hp0, hR, ⟨_, rfl⟩, rfl, rfl⟩
     refine go ?_
     by_cases h_71 : ((p_ * 8 : Nat) : Int) < ((Z : Nat) : Int)
     · refine go ?_
       refine jA [] (N_blockKey id ((p_ : Nat) : Int) (by omega) (by omega)) ?_
       rintro _ _ ⟨u_74, e_72, f_75, rfl, rfl⟩
       refine jA [0, 0, 0, 0] (N_layNil p x1 mm hkmm (by omega) (by omega) u_74 (by omega)) ?_
       rintro _ _ ⟨x_78, m_79, e_76, k_77, rfl, rfl⟩
       refine go ?_
       exact jP [0, 0, 0, 0] ⟨(p_ + 1), x_78, m_79, (k_77.mono (by omega) (by omega)), (by omega), (by rw [show 130 - p_ = (130 - (p_ + 1)) + 1 by omega, MS.cutL, if_pos (by omega)] at hR; simp only [MS.blockKey, e_1, e_5, e_13, e_51, e_59, e_67, e_72, e_76] at hR; exact hR), EL.go, rfl, rfl⟩
     rw [MS.cutL_stop (by omega)] at hR
     have hRE := hR.symm
     refine go ?_
     refine jA [] (N_sizeKey id (by omega)) ?_
     rintro _ _ ⟨u_82, e_80, f_83, rfl, rfl⟩
     have hqe_80 := e_1.symm.trans e_80
     subst hqe_80
     refine go ?_
     refine jA [0, 0, 0, 0] (N_setNum p x1 mm hkmm (by omega) (by omega) u_3 ((a : Nat) : Int) (by omega) (by omega)) ?_
     rintro _ _ ⟨x_86, m_87, e_84, k_85, rfl, rfl⟩
     refine go ?_
     refine jE (.inl rfl) rfl (jC (v := iv 0) rfl) (List.Sublist.refl _) ?_
     exact ⟨x_86, m_87, 0, (by simp only [MS.cutFile, Int.toNat_natCast, true_or, or_true, false_or, or_false, MS.blockKey, MS.sizeOf, e_1, e_5, h_11, hat, hZ, h_12, e_13, e_51, e_59, e_67, h_71, hRE, e_84, SB]; (repeat (first | rw [if_pos (by omega)] | rw [if_neg (by omega)])); all_goals (first | rfl | simp only [SB, e_1, e_5, h_11, hat, hZ, h_12, e_13, e_51, e_59, e_67, h_71, hRE, e_84])), (k_85.mono (by omega) (by omega)), (by first | omega | (simp only [LE]; omega)), rfl, rfl⟩
   refine go ?_
   refine jL (fun k_ e_ L_ => ∃ p_ : Nat, ∃ x1 : MA, ∃ mm : MS, (mm.ok (S + 1) (T + 4 + p_)) ∧ (p_ ≤ 126) ∧ (MS.cutL id Z (130 - p_) p_ mm = MS.cutL id Z (130 - (a / 8)) (a / 8) m_8) ∧ EL e_ [(0, pv p), (1, iv id), (2, nv a), (6, iv 0), (7, nv Z), (8, nv p_)] ∧ L_ = [mb p x1 mm, rC x1.a0 x1.c0 mm.s, rS x1.a1 x1.c1 mm.r, rS x1.a2 x1.c2 mm.w] ∧ k_ = 130 - p_) _ ⟨(a / 8), x_7, m_8, (k_6.mono (by omega) (by omega)), (by omega), rfl, (EL.cons rfl <| EL.cons rfl <| EL.cons rfl <| EL.cons rfl <| EL.cons (congrArg (Value.int .i64) hZ) <| EL.go), rfl, rfl⟩ ?_
   rintro _ _ _ ⟨p_, x1, mm, hkmm, hp0, hR, ⟨_, rfl⟩, rfl, rfl⟩
   refine go ?_
   by_cases h_88 : ((p_ * 8 : Nat) : Int) < ((Z : Nat) : Int)
   · refine go ?_
     refine jA [] (N_blockKey id ((p_ : Nat) : Int) (by omega) (by omega)) ?_
     rintro _ _ ⟨u_91, e_89, f_92, rfl, rfl⟩
     refine jA [0, 0, 0, 0] (N_layNil p x1 mm hkmm (by omega) (by omega) u_91 (by omega)) ?_
     rintro _ _ ⟨x_95, m_96, e_93, k_94, rfl, rfl⟩
     refine go ?_
     exact jP [0, 0, 0, 0] ⟨(p_ + 1), x_95, m_96, (k_94.mono (by omega) (by omega)), (by omega), (by rw [show 130 - p_ = (130 - (p_ + 1)) + 1 by omega, MS.cutL, if_pos (by omega)] at hR; simp only [MS.blockKey, e_1, e_5, e_89, e_93] at hR; exact hR), EL.go, rfl, rfl⟩
   rw [MS.cutL_stop (by omega)] at hR
   have hRE := hR.symm
   refine go ?_
   refine jA [] (N_sizeKey id (by omega)) ?_
   rintro _ _ ⟨u_99, e_97, f_100, rfl, rfl⟩
   have hqe_97 := e_1.symm.trans e_97
   subst hqe_97
   refine go ?_
   refine jA [0, 0, 0, 0] (N_setNum p x1 mm hkmm (by omega) (by omega) u_3 ((a : Nat) : Int) (by omega) (by omega)) ?_
   rintro _ _ ⟨x_103, m_104, e_101, k_102, rfl, rfl⟩
   refine go ?_
   refine jE (.inl rfl) rfl (jC (v := iv 0) rfl) (List.Sublist.refl _) ?_
   exact ⟨x_103, m_104, 0, (by simp only [MS.cutFile, Int.toNat_natCast, true_or, or_true, false_or, or_false, MS.blockKey, MS.sizeOf, e_1, e_5, h_11, hat, hZ, h_12, h_88, hRE, e_101, SB]; (repeat (first | rw [if_pos (by omega)] | rw [if_neg (by omega)])); all_goals (first | rfl | simp only [SB, e_1, e_5, h_11, hat, hZ, h_12, h_88, hRE, e_101])), (k_102.mono (by omega) (by omega)), (by first | omega | (simp only [LE]; omega)), rfl, rfl⟩
 have h_11d := h_11
 simp only [Bool.and_eq_true, Bool.and_eq_false_iff, decide_eq_true_eq, decide_eq_false_iff_not] at h_11d
 refine go ?_
 refine jE (.inl rfl) rfl (jC (v := iv 4) rfl) (List.Sublist.refl _) ?_
 exact ⟨x_7, m_8, 4, (by simp only [MS.cutFile, Int.toNat_natCast, true_or, or_true, false_or, or_false, MS.blockKey, MS.sizeOf, e_1, e_5, h_11, SB]; (repeat (first | rw [if_pos (by omega)] | rw [if_neg (by omega)])); all_goals (first | rfl | simp only [SB, e_1, e_5, h_11])), (k_6.mono (by omega) (by omega)), (by first | omega | (simp only [LE]; omega)), rfl, rfl⟩

theorem M_cutFile (x : MA) (m : MS) {S T : Nat} (hk : m.ok S T) (hS : S ≤ 300000000) (hT : T ≤ 1250000000) (id : Int) (n : Int) (hid : -9223372036854775808 ≤ id ∧ id ≤ 9223372036854775807) (hn : -9223372036854775808 ≤ n ∧ n ≤ 9223372036854775807) :
   Ct Tryz.prog 317 [mv x m, .int .i64 id, .int .i64 n] (mr x m) (fun _ => True) (fun v A' => ∃ x' m' r0, MS.cutFile m id n = (m', r0) ∧ m'.ok (S + 3) (T + 140) ∧ (0 ≤ r0 ∧ r0 ≤ 9) ∧ v = .tuple #[mv x' m', .int .i64 r0] ∧ A' = mr x' m') := by
 refine Ct.intro Tryz.func317 rfl Tryz.ntmps317 (lb rfl) fun w0 hpre => ?_
 refine go ?_
 refine jM (mc x m) fun b_1 => ?_
 refine jG zC fun b_2 => ?_
 refine go ?_
 refine jA [2, 2, 2] (M_sizeFile x m hk (by omega) (by omega) id (by omega)) ?_
 rintro _ _ ⟨x_5, m_6, n_7, e_3, k_4, f_8, rfl, rfl⟩
 refine go ?_
 refine jD 4 (mc x_5 m_6) ?_
 refine go ?_
 refine jN [] (C_l01In n 0 n_7) ?_
 refine go ?_
 rcases Bool.eq_false_or_eq_true (decide (0 ≤ n) && decide (n ≤ n_7)) with h_9 | h_9
 · have h_9d := h_9
   simp only [Bool.and_eq_true, Bool.and_eq_false_iff, decide_eq_true_eq, decide_eq_false_iff_not] at h_9d
   obtain ⟨a, hat⟩ : ∃ a : Nat, n = ((a : Nat) : Int) := ⟨n.toNat, by omega⟩
   obtain ⟨Z, hZ⟩ : ∃ Z : Nat, n_7 = ((Z : Nat) : Int) := ⟨n_7.toNat, by omega⟩
   first | refine kA 2 (v := nv a) (congrArg (Value.int .i64) hat) ?_ | refine jv 2 (v := nv a) (congrArg (Value.int .i64) hat) ?_ | refine kB 2 (v := nv a) (congrArg (Value.int .i64) hat) ?_ | refine kC 2 (v := nv a) (congrArg (Value.int .i64) hat) ?_
   refine go ?_
   by_cases h_10 : 0 < ((a % 8 : Nat) : Int)
   · refine go ?_
     refine jA [0, 0, 0] (M_block x_5 m_6 k_4 (by omega) (by omega) id ((a / 8 : Nat) : Int) (by omega) (by omega)) ?_
     rintro _ _ ⟨x_13, m_14, u_15, e_11, k_12, f_16, rfl, rfl⟩
     refine go ?_
     refine jD 4 (mc x_13 m_14) ?_
     refine go ?_
     refine jH [4] 10 ?_
     refine go ?_
     refine jB (i := 8) ?_
     refine jI [] (N_brought (a % 8) u_15.length) ?_
     rintro _ _ ⟨rfl, rfl⟩
     refine jd 9 rfl (PO.sliceSh (j := (min (a % 8) u_15.length)) kO rfl rfl (by omega)) ?_
     refine jB (i := 10) ?_
     refine kE [0, 0, 0] (M_layBlock x_13 m_14 k_12 (by omega) (by omega) id ((a / 8 : Nat) : Int) (u_15.take (min (a % 8) u_15.length)) (by omega) (by omega) (by first | omega | (simp only [LE]; omega))) ?_
     rintro _ _ ⟨x_23, m_24, e_21, k_22, rfl, rfl⟩
     refine jB (i := 11) ?_
     refine jS 4 (mc x_23 m_24) ?_
     refine go ?_
     refine jL (fun k_ e_ L_ => ∃ p_ : Nat, ∃ x1 : MA, ∃ mm : MS, (mm.ok (S + 1) (T + 4 + p_)) ∧ (p_ ≤ 126) ∧ (MS.cutL id Z (130 - p_) p_ mm = MS.cutL id Z (130 - ((a / 8) + 1)) ((a / 8) + 1) m_24) ∧ EL e_ [(1, iv id), (2, nv a), (3, .pointer (some ⟨b_1, 0, none⟩)), (6, .pointer (some ⟨b_2, 0, none⟩)), (7, iv 0), (8, nv Z), (9, nv p_)] ∧ L_ = [rC x1.a0 x1.c0 mm.s, rS x1.a1 x1.c1 mm.r, rS x1.a2 x1.c2 mm.w, bk b_2 60 zC, mb b_1 x1 mm] ∧ k_ = 130 - p_) _ ⟨((a / 8) + 1), x_23, m_24, (k_22.mono (by omega) (by omega)), (by omega), rfl, (EL.cons rfl <| EL.cons rfl <| EL.cons rfl <| EL.cons rfl <| EL.cons rfl <| EL.cons (congrArg (Value.int .i64) hZ) <| EL.go), rfl, rfl⟩ ?_
     rintro _ _ _ ⟨p_, x1, mm, hkmm, hp0, hR, ⟨_, rfl⟩, rfl, rfl⟩
     refine go ?_
     by_cases h_25 : ((p_ * 8 : Nat) : Int) < ((Z : Nat) : Int)
     · refine go ?_
       refine jH [4] 4 ?_
       refine go ?_
       refine jB (i := 3) ?_
       refine jI [] (N_l07Block id ((p_ : Nat) : Int) (by omega) (by omega)) ?_
       rintro _ _ ⟨u_32, e_30, f_33, rfl, rfl⟩
       refine jB (i := 4) ?_
       refine kE [0, 0, 0] (N_sLayNil x1 mm hkmm (by omega) (by omega) u_32 (by omega)) ?_
       rintro _ _ ⟨x_40, m_41, e_38, k_39, rfl, rfl⟩
       refine jB (i := 5) ?_
       refine jS 4 (mc x_40 m_41) ?_
       refine go ?_
       exact jP [0, 0, 0, 0, 0] ⟨(p_ + 1), x_40, m_41, (k_39.mono (by omega) (by omega)), (by omega), (by rw [show 130 - p_ = (130 - (p_ + 1)) + 1 by omega, MS.cutL, if_pos (by omega)] at hR; simp only [MS.blockKey, e_3, e_11, e_21, e_30, e_38] at hR; exact hR), EL.go, rfl, rfl⟩
     rw [MS.cutL_stop (by omega)] at hR
     have hRE := hR.symm
     refine go ?_
     refine jH [4] 4 ?_
     refine go ?_
     refine jB (i := 2) ?_
     refine jI [] (N_sKeyNum [105, 47] id [47, 115] (show List.length ([105, 47] : Str) ≤ 2 by decide) (by omega) (show List.length ([47, 115] : Str) ≤ 2 by decide) (by omega)) ?_
     rintro _ _ ⟨u_52, e_50, f_53, rfl, rfl⟩
     refine jB (i := 4) ?_
     refine kE [0, 0, 0] (N_sSetNum x1 mm hkmm (by omega) (by omega) u_52 ((a : Nat) : Int) (by omega) (by omega)) ?_
     rintro _ _ ⟨x_60, m_61, e_58, k_59, rfl, rfl⟩
     refine jB (i := 5) ?_
     refine jf 3 (mc x_60 m_61) ?_
     refine go ?_
     exact jQ [0, 0, 0] ⟨x_60, m_61, 0, (by simp only [MS.cutFile, Int.toNat_natCast, true_or, or_true, false_or, or_false, MS.blockKey, e_3, h_9, hat, hZ, h_10, e_11, e_21, h_25, hRE, e_50, e_58, SB]; (repeat (first | rw [if_pos (by omega)] | rw [if_neg (by omega)])); all_goals (first | rfl | simp only [SB, e_3, h_9, hat, hZ, h_10, e_11, e_21, h_25, hRE, e_50, e_58])), (k_59.mono (by omega) (by omega)), (by first | omega | (simp only [LE]; omega)), rfl, rfl⟩
   refine go ?_
   refine jL (fun k_ e_ L_ => ∃ p_ : Nat, ∃ x1 : MA, ∃ mm : MS, (mm.ok (S + 1) (T + 4 + p_)) ∧ (p_ ≤ 126) ∧ (MS.cutL id Z (130 - p_) p_ mm = MS.cutL id Z (130 - (a / 8)) (a / 8) m_6) ∧ EL e_ [(1, iv id), (2, nv a), (3, .pointer (some ⟨b_1, 0, none⟩)), (6, .pointer (some ⟨b_2, 0, none⟩)), (7, iv 0), (8, nv Z), (9, nv p_)] ∧ L_ = [rC x1.a0 x1.c0 mm.s, rS x1.a1 x1.c1 mm.r, rS x1.a2 x1.c2 mm.w, bk b_2 60 zC, mb b_1 x1 mm] ∧ k_ = 130 - p_) _ ⟨(a / 8), x_5, m_6, (k_4.mono (by omega) (by omega)), (by omega), rfl, (EL.cons rfl <| EL.cons rfl <| EL.cons rfl <| EL.cons rfl <| EL.cons rfl <| EL.cons (congrArg (Value.int .i64) hZ) <| EL.go), rfl, rfl⟩ ?_
   rintro _ _ _ ⟨p_, x1, mm, hkmm, hp0, hR, ⟨_, rfl⟩, rfl, rfl⟩
   refine go ?_
   by_cases h_62 : ((p_ * 8 : Nat) : Int) < ((Z : Nat) : Int)
   · refine go ?_
     refine jH [4] 4 ?_
     refine go ?_
     refine jB (i := 3) ?_
     refine jI [] (N_l07Block id ((p_ : Nat) : Int) (by omega) (by omega)) ?_
     rintro _ _ ⟨u_69, e_67, f_70, rfl, rfl⟩
     refine jB (i := 4) ?_
     refine kE [0, 0, 0] (N_sLayNil x1 mm hkmm (by omega) (by omega) u_69 (by omega)) ?_
     rintro _ _ ⟨x_77, m_78, e_75, k_76, rfl, rfl⟩
     refine jB (i := 5) ?_
     refine jS 4 (mc x_77 m_78) ?_
     refine go ?_
     exact jP [0, 0, 0, 0, 0] ⟨(p_ + 1), x_77, m_78, (k_76.mono (by omega) (by omega)), (by omega), (by rw [show 130 - p_ = (130 - (p_ + 1)) + 1 by omega, MS.cutL, if_pos (by omega)] at hR; simp only [MS.blockKey, e_3, e_67, e_75] at hR; exact hR), EL.go, rfl, rfl⟩
   rw [MS.cutL_stop (by omega)] at hR
   have hRE := hR.symm
   refine go ?_
   refine jH [4] 4 ?_
   refine go ?_
   refine jB (i := 2) ?_
   refine jI [] (N_sKeyNum [105, 47] id [47, 115] (show List.length ([105, 47] : Str) ≤ 2 by decide) (by omega) (show List.length ([47, 115] : Str) ≤ 2 by decide) (by omega)) ?_
   rintro _ _ ⟨u_89, e_87, f_90, rfl, rfl⟩
   refine jB (i := 4) ?_
   refine kE [0, 0, 0] (N_sSetNum x1 mm hkmm (by omega) (by omega) u_89 ((a : Nat) : Int) (by omega) (by omega)) ?_
   rintro _ _ ⟨x_97, m_98, e_95, k_96, rfl, rfl⟩
   refine jB (i := 5) ?_
   refine jf 3 (mc x_97 m_98) ?_
   refine go ?_
   exact jQ [0, 0, 0] ⟨x_97, m_98, 0, (by simp only [MS.cutFile, Int.toNat_natCast, true_or, or_true, false_or, or_false, MS.blockKey, e_3, h_9, hat, hZ, h_10, h_62, hRE, e_87, e_95, SB]; (repeat (first | rw [if_pos (by omega)] | rw [if_neg (by omega)])); all_goals (first | rfl | simp only [SB, e_3, h_9, hat, hZ, h_10, h_62, hRE, e_87, e_95])), (k_96.mono (by omega) (by omega)), (by first | omega | (simp only [LE]; omega)), rfl, rfl⟩
 have h_9d := h_9
 simp only [Bool.and_eq_true, Bool.and_eq_false_iff, decide_eq_true_eq, decide_eq_false_iff_not] at h_9d
 refine go ?_
 refine jD 3 (mc x_5 m_6) ?_
 refine go ?_
 exact jQ [0, 0, 0] ⟨x_5, m_6, 4, (by simp only [MS.cutFile, Int.toNat_natCast, true_or, or_true, false_or, or_false, MS.blockKey, e_3, h_9, SB]; (repeat (first | rw [if_pos (by omega)] | rw [if_neg (by omega)])); all_goals (first | rfl | simp only [SB, e_3, h_9])), (k_4.mono (by omega) (by omega)), (by first | omega | (simp only [LE]; omega)), rfl, rfl⟩
end Go.Proofs.YthlfmbbaomdciaaGreatDoor
