/-
  Texts put out, counted and compared (part 29).
-/
import Derived.Test.YtenfajgpdhgknaaGreatDoorDatP
import Derived.Test.YtenfajgpdhgknaaGreatDoorDatF
set_option linter.unusedSimpArgs false
set_option linter.unusedVariables false
set_option linter.unnecessarySimpa false
namespace Go.Proofs.YtenfajgpdhgknaaGreatDoor
open Go Go.RowKit
section
variable {P : Program} {n : Nat} {e : Env} {d : Option Tmp} {ty : TypeId} {pos : String} {aft : Array Edge} {gd : Option (Nat × Bool)}
theorem PO.field1 {x : Operand} {t : TypeId} {fs : Array Field} {f : Field} {i : Nat} {cs : Array Value} {v : Value} (ht : P.underlying t = some (.struct fs)) (hf : fs[i]? = some f) (hx : rd n e x = .agg cs) (ha : ∀ w, (isAgg f.type).run P w = .ok false w) (hc : cs[f.offset]? = some v) :
    PO P n e ⟨d, .field t x i, ty, pos, aft, gd⟩ v := fun w => by
  simp [execOp, hx, Instr.field, run_underlying ht, hf, part, ha, hc, asAgg]
theorem PO.castSl {o : Oper} {a : Option Addr} {m k c : Nat} (h : PO P n e o (.slice a m c)) (hm : m = k) : PO P n e o (.slice a k c) := hm ▸ h
theorem castSees {w : World} {a : Option Addr} {m q c k : Nat} {vs : List Value} (h : Sees w (.slice a m c) k m vs) (hm : m = q) : Sees w (.slice a q c) k q vs := hm ▸ h
end
attribute [local irreducible] JL JC JQ JO LO PO JA JX Ct

theorem N_outCount (sa : Option Addr) (sc : Nat) (s : List Cell) (hs : s.length ≤ 1000000) (hsl : ∀ key, (getKey s key).length ≤ 1048576) :
    Ct Tryz.prog 116 [.slice sa s.length sc] ([]) (fun w => Sees w (.slice sa s.length sc) 2 s.length (s.flatMap encC)) (fun v A' => ∃ r0, outCount s = r0 ∧ (0 ≤ r0 ∧ r0 ≤ 40) ∧ v = .int .i64 r0 ∧ A' = []) := by
  have hv : (getKey s [100, 47, 110]).length ≤ 1048576 := hsl _
  refine Ct.intro Tryz.func116 rfl Tryz.ntmps116 (Nat.le_of_ble_eq_true rfl) fun w0 hpre => ?_
  have hs_sa : Sees w0 _ _ _ _ := hpre
  refine JC.seq ?_
  refine JC.region ?_
  refine JL.pure rfl (PO.assign (v := .int .i64 0) rfl) ?_
  refine JL.nil ?_
  refine JQ.seq ?_
  refine JC.seq ?_
  refine JC.region ?_
  refine JL.pure rfl (PO.move (v := .slice sa s.length sc) rfl) ?_
  refine JL.op rfl (JO.call [] Tryz.call214 rfl (C_getKey sa sc s [100, 47, 110] (by omega)) rfl (fun w hw => hw.seeOut_ hs_sa (fun _ _ => List.not_mem_nil))) ?_
  rintro _ _ ⟨_, ⟨rfl, rfl⟩, rfl⟩
  have hgl0 := hsl [100, 47, 110]
  refine JL.op rfl (JO.call [] Tryz.call221 rfl (N_numOf (getKey s [100, 47, 110]) (by omega)) rfl (fun _ _ => trivial)) ?_
  rintro _ _ ⟨_, ⟨n_3, e_1, f_4, rfl, rfl⟩, rfl⟩
  refine JL.pure rfl (PO.min2 (c := min n_3 40) rfl rfl rfl) ?_
  refine JL.pure rfl (PO.assign (v := .int .i64 (min n_3 40)) rfl) ?_
  refine JL.nil ?_
  refine JQ.seq ?_
  refine JC.ret ?_
  refine Done.one (.inl rfl) rfl (RV.tmp (v := .int .i64 (min n_3 40)) rfl) (List.nil_sublist _) ?_
  exact ⟨(min n_3 40), (by unfold outCount; first | rfl | omega), (by omega), rfl, rfl⟩

theorem N_sbro (x : Int) (y : Nat) :
    Ct Tryz.prog 216 [.int .i64 x, .int .i64 0, .int .i64 ((y : Nat) : Int)] [] (fun _ => True) (fun v A' => v = .int .i64 ((bro x y : Nat) : Int) ∧ A' = []) := by
  refine Ct.intro Tryz.func216 rfl Tryz.ntmps216 (Nat.le_of_ble_eq_true rfl) fun w0 hpre => ?_
  refine JC.seq ?_
  refine JC.region ?_
  refine JL.pure rfl (PO.assign (v := .int .i64 0) rfl) ?_
  refine JL.nil ?_
  refine JQ.seq ?_
  refine JC.seq ?_
  refine JC.seq ?_
  refine JC.region ?_
  refine JL.pure rfl (PO.move (v := .int .i64 ((y : Nat) : Int)) rfl) ?_
  refine JL.pure rfl (PO.move (v := .int .i64 0) rfl) ?_
  refine JL.pure rfl (PO.lss rfl rfl) ?_
  refine JL.pure rfl (PO.move (v := .bool (decide (((y : Nat) : Int) < 0))) rfl) ?_
  by_cases h_1 : ((y : Nat) : Int) < 0
  · skip
    refine JL.guardOff (b := true) rfl rfl rfl (congrArg Value.bool (decide_eq_true h_1)) ?_
    refine JL.guardOff (b := true) rfl rfl rfl (congrArg Value.bool (decide_eq_true h_1)) ?_
    refine JL.guardOff (b := true) rfl rfl rfl (congrArg Value.bool (decide_eq_true h_1)) ?_
    refine JL.pure rfl (PO.pickT (v := .bool true) (congrArg Value.bool (decide_eq_true h_1)) rfl) ?_
    refine JL.nil ?_
    refine JQ.seq ?_
    refine JC.condT (congrArg Value.bool rfl) ?_
    refine JC.seq ?_
    refine JC.region ?_
    refine JL.pure rfl (PO.move (v := .int .i64 0) rfl) ?_
    refine JL.pure rfl (PO.assign (v := .int .i64 0) rfl) ?_
    refine JL.nil ?_
    refine JQ.seq ?_
    refine JC.ret ?_
    refine JQ.thenRet ?_
    refine Done.one (.inl rfl) rfl (RV.tmp (v := .int .i64 0) rfl) (List.nil_sublist _) ?_
    refine ⟨?_, rfl⟩
    exact congrArg (Value.int .i64) (by unfold bro; first | omega | (simp only [Int.min_def, Int.max_def]; omega) | grind)
  · skip
    refine JL.guardOn rfl rfl rfl (congrArg Value.bool (decide_eq_false h_1)) (JO.ofLO (LO.pure (PO.move (v := .int .i64 x) rfl))) ?_
    rintro _ _ ⟨rfl, rfl⟩
    refine JL.guardOn rfl rfl rfl (congrArg Value.bool (decide_eq_false h_1)) (JO.ofLO (LO.pure (PO.move (v := .int .i64 0) rfl))) ?_
    rintro _ _ ⟨rfl, rfl⟩
    refine JL.guardOn rfl rfl rfl (congrArg Value.bool (decide_eq_false h_1)) (JO.ofLO (LO.pure (PO.lss rfl rfl))) ?_
    rintro _ _ ⟨rfl, rfl⟩
    refine JL.pure rfl (PO.pickF (v := .bool (decide (x < 0))) (congrArg Value.bool (decide_eq_false h_1)) rfl) ?_
    refine JL.nil ?_
    refine JQ.seq ?_
    by_cases h_2 : x < 0
    · skip
      refine JC.condT (congrArg Value.bool (decide_eq_true h_2)) ?_
      refine JC.seq ?_
      refine JC.region ?_
      refine JL.pure rfl (PO.move (v := .int .i64 0) rfl) ?_
      refine JL.pure rfl (PO.assign (v := .int .i64 0) rfl) ?_
      refine JL.nil ?_
      refine JQ.seq ?_
      refine JC.ret ?_
      refine JQ.thenRet ?_
      refine Done.one (.inl rfl) rfl (RV.tmp (v := .int .i64 0) rfl) (List.nil_sublist _) ?_
      refine ⟨?_, rfl⟩
      exact congrArg (Value.int .i64) (by unfold bro; first | omega | (simp only [Int.min_def, Int.max_def]; omega) | grind)
    · skip
      refine JC.condF (congrArg Value.bool (decide_eq_false h_2)) ?_
      refine JC.skip ?_
      refine JQ.seq ?_
      refine JC.seq ?_
      refine JC.seq ?_
      refine JC.region ?_
      refine JL.pure rfl (PO.move (v := .int .i64 x) rfl) ?_
      refine JL.pure rfl (PO.move (v := .int .i64 ((y : Nat) : Int)) rfl) ?_
      refine JL.pure rfl (PO.gtr rfl rfl) ?_
      refine JL.nil ?_
      refine JQ.seq ?_
      by_cases h_3 : ((y : Nat) : Int) < x
      · skip
        refine JC.condT (congrArg Value.bool (decide_eq_true h_3)) ?_
        refine JC.seq ?_
        refine JC.region ?_
        refine JL.pure rfl (PO.move (v := .int .i64 ((y : Nat) : Int)) rfl) ?_
        refine JL.pure rfl (PO.assign (v := .int .i64 ((y : Nat) : Int)) rfl) ?_
        refine JL.nil ?_
        refine JQ.seq ?_
        refine JC.ret ?_
        refine JQ.thenRet ?_
        refine Done.one (.inl rfl) rfl (RV.tmp (v := .int .i64 ((y : Nat) : Int)) rfl) (List.nil_sublist _) ?_
        refine ⟨?_, rfl⟩
        exact congrArg (Value.int .i64) (by unfold bro; first | omega | (simp only [Int.min_def, Int.max_def]; omega) | grind)
      · skip
        refine JC.condF (congrArg Value.bool (decide_eq_false h_3)) ?_
        refine JC.skip ?_
        refine JQ.seq ?_
        refine JC.seq ?_
        refine JC.region ?_
        refine JL.pure rfl (PO.move (v := .int .i64 x) rfl) ?_
        refine JL.pure rfl (PO.assign (v := .int .i64 x) rfl) ?_
        refine JL.nil ?_
        refine JQ.seq ?_
        refine JC.ret ?_
        refine Done.one (.inl rfl) rfl (RV.tmp (v := .int .i64 x) rfl) (List.nil_sublist _) ?_
        refine ⟨?_, rfl⟩
        exact congrArg (Value.int .i64) (by unfold bro; first | omega | (simp only [Int.min_def, Int.max_def]; omega) | grind)

theorem N_ibro (x : Int) (y : Nat) :
    Ct Tryz.prog 223 [.int .i64 x, .int .i64 0, .int .i64 ((y : Nat) : Int)] [] (fun _ => True) (fun v A' => v = .int .i64 ((bro x y : Nat) : Int) ∧ A' = []) := by
  refine Ct.intro Tryz.func223 rfl Tryz.ntmps223 (Nat.le_of_ble_eq_true rfl) fun w0 hpre => ?_
  refine JC.seq ?_
  refine JC.region ?_
  refine JL.pure rfl (PO.assign (v := .int .i64 0) rfl) ?_
  refine JL.nil ?_
  refine JQ.seq ?_
  refine JC.seq ?_
  refine JC.region ?_
  refine JL.pure rfl (PO.move (v := .int .i64 0) rfl) ?_
  refine JL.pure rfl (PO.move (v := .int .i64 x) rfl) ?_
  refine JL.pure rfl (PO.move (v := .int .i64 ((y : Nat) : Int)) rfl) ?_
  refine JL.pure rfl (PO.min2 (c := min x ((y : Nat) : Int)) rfl rfl rfl) ?_
  refine JL.pure rfl (PO.max2 (c := max 0 (min x ((y : Nat) : Int))) rfl rfl rfl) ?_
  refine JL.pure rfl (PO.assign (v := .int .i64 (max 0 (min x ((y : Nat) : Int)))) rfl) ?_
  refine JL.nil ?_
  refine JQ.seq ?_
  refine JC.ret ?_
  refine Done.one (.inl rfl) rfl (RV.tmp (v := .int .i64 (max 0 (min x ((y : Nat) : Int)))) rfl) (List.nil_sublist _) ?_
  refine ⟨?_, rfl⟩
  exact congrArg (Value.int .i64) (by unfold bro; first | omega | (simp only [Int.min_def, Int.max_def]; omega) | grind)

theorem N_outsIn (sa : Option Addr) (sc : Nat) (s : List Cell) (hs : s.length ≤ 1000000) (hsl : ∀ key, (getKey s key).length ≤ 1048576) :
    Ct Tryz.prog 112 [.slice sa s.length sc] ([]) (fun w => Sees w (.slice sa s.length sc) 2 s.length (s.flatMap encC) ∧ HexOk w) (fun v A' => ∃ r0a r0c r0, outsIn s = r0 ∧ r0.length ≤ 40 ∧ v = .slice r0a r0.length r0c ∧ A' = [rS r0a r0c r0]) := by
  refine Ct.introL Tryz.func112 rfl Tryz.ntmps112 (Nat.le_of_ble_eq_true rfl) fun w0 hpre hlow => ?_
  have hs_sa : Sees w0 _ _ _ _ := hpre.1
  refine JC.seq ?_
  refine JC.region ?_
  refine JL.pure rfl (PO.assign (v := .slice none 0 0) rfl) ?_
  refine JL.nil ?_
  refine JQ.seq ?_
  refine JC.seq ?_
  refine JC.region ?_
  refine JL.pure rfl (PO.assign (v := .slice none 0 0) rfl) ?_
  refine JL.nil ?_
  refine JQ.seq ?_
  refine JC.seq ?_
  refine JC.seq ?_
  refine JC.region ?_
  refine JL.pure rfl (PO.assign (v := .int .i64 1) rfl) ?_
  refine JL.nil ?_
  refine JQ.seq ?_
  refine JC.block ?_
  refine JC.nilRow 9 1 ?_
  refine JC.loop (fun k_ e_ L_ => ∃ i_ : Nat, ∃ o_a : Option Addr, ∃ o_c : Nat, ∃ o_ : List Str, (1 ≤ i_ ∧ i_ ≤ 41) ∧ (o_.length + 1 = i_) ∧ (outsI s (41 - i_) i_ o_ = outsI s 40 1 []) ∧ e_ 0 = .slice sa s.length sc ∧ e_ 2 = .slice none 0 0 ∧ e_ 3 = .slice o_a o_.length o_c ∧ e_ 4 = .int .i64 ((i_ : Nat) : Int) ∧ L_ = [rS o_a o_c o_] ∧ k_ = 42 - i_) _ ⟨1, none, 0, ([] : List Str), (by omega), (by rfl), rfl, rfl, rfl, rfl, rfl, rfl, rfl⟩ ?_
  rintro _ e_1 _ ⟨i_, o_a, o_c, o_, hi, hol, hR, he_2, he_3, he_4, he_5, rfl, rfl⟩
  refine JC.seq ?_
  refine JC.seq ?_
  refine JC.region ?_
  refine JL.pure rfl (PO.move (v := .int .i64 ((i_ : Nat) : Int)) he_5) ?_
  refine JL.pure rfl (PO.move (v := .slice sa s.length sc) he_2) ?_
  refine JL.op rfl (JO.call [] Tryz.call116 rfl (N_outCount sa sc s (by omega) hsl) rfl (fun w hw => hw.seeOut_ hs_sa (fun _ _ => List.not_mem_nil))) ?_
  rintro _ _ ⟨_, ⟨n_8, e_6, f_9, rfl, rfl⟩, rfl⟩
  refine JL.pure rfl (PO.leq rfl rfl) ?_
  refine JL.nil ?_
  refine JQ.seq ?_
  by_cases h_10 : ((i_ : Nat) : Int) ≤ n_8
  · skip
    refine JC.condT (congrArg Value.bool (decide_eq_true h_10)) ?_
    refine JC.skip ?_
    refine JQ.seq ?_
    refine JC.seq ?_
    refine JC.block ?_
    refine JC.region ?_
    refine JL.pure rfl (PO.move (v := .slice o_a o_.length o_c) he_4) ?_
    refine JL.pure rfl (PO.move (v := .slice sa s.length sc) he_2) ?_
    refine JL.pure rfl (PO.move (v := .int .i64 ((i_ : Nat) : Int)) he_5) ?_
    refine JL.op rfl (JO.call [] Tryz.call215 rfl (N_keyNum [100, 47] ((i_ : Nat) : Int) [] (show List.length ([100, 47] : Str) ≤ 2 by decide) (by omega) (show List.length ([] : Str) ≤ 0 by decide) (by omega)) rfl (fun _ _ => trivial)) ?_
    rintro _ _ ⟨_, ⟨u_13, e_11, f_14, rfl, rfl⟩, rfl⟩
    refine JL.op rfl (JO.call [] Tryz.call214 rfl (C_getKey sa sc s u_13 (by omega)) rfl (fun w hw => hw.seeOut_ hs_sa (fun _ _ => List.not_mem_nil))) ?_
    rintro _ _ ⟨_, ⟨rfl, rfl⟩, rfl⟩
    have hgl14 := hsl u_13
    refine JL.op rfl (JO.call [] Tryz.call213 rfl (N_messageOf (getKey s u_13) (by omega)) rfl (fun w hw => hw.hex hlow hpre.2)) ?_
    rintro _ _ ⟨_, ⟨u_17, e_15, f_18, rfl, rfl⟩, rfl⟩
    refine JL.op rfl (JO.buildSlice (ps := [(0, str u_17)]) (cur := #[str u_17]) Tryz.underlying23 Tryz.sizeOf9 Tryz.zeroValue9 rfl (by kernel_rfl) (by decide) (by decide)) ?_
    rintro _ _ ⟨a_19, rfl, rfl⟩
    refine JL.op rfl (JO.append' 1 (q := 1) (news := ([u_17] : List Str).map str) (n' := (o_ ++ ([u_17] : List Str)).length) (cs' := (o_ ++ ([u_17] : List Str)).map str) rfl Tryz.underlying23 Tryz.underlying23 Tryz.typeInfo9 rfl (by' := 16) rfl rfl rfl rfl rfl (fun w hw => Src.sees (hw.see (i := 0) rfl) (oneS _)) (by (try simp only [List.length_append, List.length_cons, List.length_nil, List.length_take, List.length_drop]); omega) (by (try simp only [List.length_append, List.length_cons, List.length_nil, List.length_take, List.length_drop]); omega) (by simp only [List.length_append, List.length_take, List.length_drop, List.length_cons, List.length_nil] <;> first | rfl | omega) (by simp only [List.map_append])) ?_
    rintro _ _ ⟨a_20, c_21, rfl, rfl⟩
    refine JL.pure rfl (PO.assign (v := .slice a_20 ((o_ ++ ([u_17] : List Str)).length) c_21) rfl) ?_
    refine JL.nil ?_
    refine JQ.blockN ?_
    refine JQ.seq ?_
    refine JC.region ?_
    refine JL.pure rfl (PO.move (v := .int .i64 ((i_ : Nat) : Int)) he_5) ?_
    refine JL.pure rfl (PO.add (c := ((i_ + 1 : Nat) : Int)) rfl rfl (wr (by omega))) ?_
    refine JL.pure rfl (PO.assign (v := .int .i64 ((i_ + 1 : Nat) : Int)) rfl) ?_
    refine JL.nil ?_
    refine JQ.pick [1] (A := [rS a_20 c_21 (o_ ++ ([u_17] : List Str))]) rfl ?_
    refine JQ.again (42 - (i_ + 1)) (by omega) ⟨(i_ + 1), a_20, c_21, (o_ ++ ([u_17] : List Str)), (by omega), (by simp only [List.length_append, List.length_cons, List.length_nil]; omega), (by rw [show 41 - i_ = (41 - (i_ + 1)) + 1 by omega, outsI, if_pos (by omega)] at hR; simp only [e_6, e_11, e_15] at hR; exact hR), he_2, he_3, rfl, rfl, rfl, rfl⟩
  · skip
    rw [outsI_stop (by omega)] at hR
    have hRE := hR.symm
    refine JC.condF (congrArg Value.bool (decide_eq_false h_10)) ?_
    refine JC.exit ?_
    refine JQ.thenExit ?_
    refine JQ.thenExit ?_
    refine JQ.blockE ?_
    refine JQ.seq ?_
    refine JC.seq ?_
    refine JC.region ?_
    refine JL.pure rfl (PO.move (v := .slice o_a o_.length o_c) he_4) ?_
    refine JL.pure rfl (PO.assign (v := .slice o_a o_.length o_c) rfl) ?_
    refine JL.nil ?_
    refine JQ.seq ?_
    refine JC.ret ?_
    refine Done.one (.inl rfl) rfl (RV.tmp (v := .slice o_a o_.length o_c) rfl) (List.Sublist.refl _) ?_
    exact ⟨o_a, o_c, o_, (by unfold outsIn; exact hRE), (by omega), rfl, rfl⟩

theorem N_sOutsIn (sa : Option Addr) (sc : Nat) (s : List Cell) (hs : s.length ≤ 1000000) (hsl : ∀ key, (getKey s key).length ≤ 1048576) :
    Ct Tryz.prog 115 [.slice sa s.length sc] ([]) (fun w => Sees w (.slice sa s.length sc) 2 s.length (s.flatMap encC)) (fun v A' => ∃ r0a r0c r0, outsIn s = r0 ∧ r0.length ≤ 40 ∧ v = .slice r0a r0.length r0c ∧ A' = [rS r0a r0c r0]) := by
  have hv : (getKey s [100, 47, 110]).length ≤ 1048576 := hsl _
  refine Ct.intro Tryz.func115 rfl Tryz.ntmps115 (Nat.le_of_ble_eq_true rfl) fun w0 hpre => ?_
  have hs_sa : Sees w0 _ _ _ _ := hpre
  refine JC.seq ?_
  refine JC.region ?_
  refine JL.pure rfl (PO.assign (v := .slice none 0 0) rfl) ?_
  refine JL.nil ?_
  refine JQ.seq ?_
  refine JC.seq ?_
  refine JC.region ?_
  refine JL.op rfl (JO.buildSlice (ps := []) (cur := #[]) Tryz.underlying23 Tryz.sizeOf9 Tryz.zeroValue9 rfl (by kernel_rfl) (by decide) (by decide)) ?_
  rintro _ _ ⟨a_1, rfl, rfl⟩
  refine JL.pure rfl (PO.assign (v := .slice a_1 0 0) rfl) ?_
  refine JL.nil ?_
  refine JQ.seq ?_
  refine JC.seq ?_
  refine JC.region ?_
  refine JL.pure rfl (PO.move (v := .slice sa s.length sc) rfl) ?_
  refine JL.op rfl (JO.call [] Tryz.call218 rfl (C_sGetKey sa sc s [100, 47, 110] (by omega)) rfl (fun w hw => hw.seeOut_ hs_sa (fun _ _ => List.not_mem_nil))) ?_
  rintro _ _ ⟨_, ⟨rfl, rfl⟩, rfl⟩
  have hgl1 := hsl [100, 47, 110]
  refine JL.op rfl (JO.call [] Tryz.call217 rfl (N_sNumOf (getKey s [100, 47, 110]) (by omega)) rfl (fun _ _ => trivial)) ?_
  rintro _ _ ⟨_, ⟨n_4, e_2, f_5, rfl, rfl⟩, rfl⟩
  refine JL.op rfl (JO.call [] Tryz.call216 rfl (N_sbro n_4 40) rfl (fun _ _ => trivial)) ?_
  rintro _ _ ⟨_, ⟨rfl, rfl⟩, rfl⟩
  have hbro5 := bro_le n_4 40
  refine JL.pure rfl (PO.assign (v := .int .i64 ((bro n_4 40 : Nat) : Int)) rfl) ?_
  refine JL.nil ?_
  refine JQ.seq ?_
  refine JC.seq ?_
  refine JC.seq ?_
  have hob := bro_out e_2 (by omega)
  refine JC.region ?_
  refine JL.pure rfl (PO.assign (v := .int .i64 1) rfl) ?_
  refine JL.nil ?_
  refine JQ.seq ?_
  refine JC.block ?_
  refine JC.loop (fun k_ e_ L_ => ∃ i_ : Nat, ∃ o_a : Option Addr, ∃ o_c : Nat, ∃ o_ : List Str, (1 ≤ i_ ∧ i_ ≤ 41) ∧ (o_.length + 1 = i_) ∧ (outsI s (41 - i_) i_ o_ = outsI s 40 1 []) ∧ e_ 0 = .slice sa s.length sc ∧ e_ 2 = .slice none 0 0 ∧ e_ 3 = .slice o_a o_.length o_c ∧ e_ 4 = .int .i64 ((bro n_4 40 : Nat) : Int) ∧ e_ 5 = .int .i64 ((i_ : Nat) : Int) ∧ L_ = [rS o_a o_c o_] ∧ k_ = 42 - i_) _ ⟨1, a_1, 0, ([] : List Str), (by omega), (by rfl), rfl, rfl, rfl, rfl, rfl, rfl, rfl, rfl⟩ ?_
  rintro _ e_6 _ ⟨i_, o_a, o_c, o_, hi, hol, hR, he_7, he_8, he_9, he_10, he_11, rfl, rfl⟩
  refine JC.seq ?_
  refine JC.seq ?_
  refine JC.region ?_
  refine JL.pure rfl (PO.move (v := .int .i64 ((i_ : Nat) : Int)) he_11) ?_
  refine JL.pure rfl (PO.move (v := .int .i64 ((bro n_4 40 : Nat) : Int)) he_10) ?_
  refine JL.pure rfl (PO.leq rfl rfl) ?_
  refine JL.nil ?_
  refine JQ.seq ?_
  by_cases h_12 : ((i_ : Nat) : Int) ≤ ((bro n_4 40 : Nat) : Int)
  · skip
    refine JC.condT (congrArg Value.bool (decide_eq_true h_12)) ?_
    refine JC.skip ?_
    refine JQ.seq ?_
    refine JC.seq ?_
    refine JC.block ?_
    refine JC.seq ?_
    refine JC.region ?_
    refine JL.pure rfl (PO.move (v := .slice sa s.length sc) he_7) ?_
    refine JL.pure rfl (PO.move (v := .int .i64 ((i_ : Nat) : Int)) he_11) ?_
    refine JL.op rfl (JO.call [] Tryz.call219 rfl (N_sKeyNum [100, 47] ((i_ : Nat) : Int) [] (show List.length ([100, 47] : Str) ≤ 2 by decide) (by omega) (show List.length ([] : Str) ≤ 0 by decide) (by omega)) rfl (fun _ _ => trivial)) ?_
    rintro _ _ ⟨_, ⟨u_15, e_13, f_16, rfl, rfl⟩, rfl⟩
    refine JL.op rfl (JO.call [] Tryz.call218 rfl (C_sGetKey sa sc s u_15 (by omega)) rfl (fun w hw => hw.seeOut_ hs_sa (fun _ _ => List.not_mem_nil))) ?_
    rintro _ _ ⟨_, ⟨rfl, rfl⟩, rfl⟩
    have hgl16 := hsl u_15
    refine JL.pure rfl (PO.assign (v := str (getKey s u_15)) rfl) ?_
    refine JL.nil ?_
    refine JQ.seq ?_
    refine JC.seq ?_
    obtain ⟨u_17, hg_18⟩ : ∃ u_ : Str, getKey s u_15 = u_ := ⟨_, rfl⟩
    have hg_18l : u_17.length ≤ 1048576 := by rw [← hg_18]; exact hsl _
    refine JC.region ?_
    refine JL.pure rfl (PO.assign (v := str []) rfl) ?_
    refine JL.nil ?_
    refine JQ.seq ?_
    refine JC.seq ?_
    refine JC.cut (fun e_ L_ => e_ 0 = .slice sa s.length sc ∧ e_ 2 = .slice none 0 0 ∧ e_ 3 = .slice o_a o_.length o_c ∧ e_ 4 = .int .i64 ((bro n_4 40 : Nat) : Int) ∧ e_ 5 = .int .i64 ((i_ : Nat) : Int) ∧ e_ 7 = str (messageOf u_17) ∧ L_ = [rS o_a o_c o_]) ?_ ?_
    · skip
      refine JC.seq ?_
      refine JC.region ?_
      refine JL.pure rfl (PO.move (v := str u_17) (congrArg str hg_18)) ?_
      refine JL.pure rfl (PO.neqS rfl rfl) ?_
      refine JL.pure rfl (PO.move (v := .bool (!(decide (u_17 = [])))) rfl) ?_
      by_cases h_19 : u_17 = []
      · skip
        have hm := messageOf_nil h_19
        refine JL.guardOff (b := false) rfl rfl rfl (congrArg Value.bool (congrArg Bool.not (decide_eq_true h_19))) ?_
        refine JL.guardOff (b := false) rfl rfl rfl (congrArg Value.bool (congrArg Bool.not (decide_eq_true h_19))) ?_
        refine JL.guardOff (b := false) rfl rfl rfl (congrArg Value.bool (congrArg Bool.not (decide_eq_true h_19))) ?_
        refine JL.pure rfl (PO.pickF (v := .bool false) (congrArg Value.bool (congrArg Bool.not (decide_eq_true h_19))) rfl) ?_
        refine JL.nil ?_
        refine JQ.seq ?_
        refine JC.condF (congrArg Value.bool rfl) ?_
        refine JC.skip ?_
        refine JQ.pick [0] (A := [rS o_a o_c o_]) rfl ?_
        exact JQ.cut ⟨he_7, he_8, he_9, he_10, he_11, (congrArg str hm.symm), rfl⟩
      · skip
        have h_19l := List.length_pos_iff.2 h_19
        refine JL.guardOn rfl rfl rfl (congrArg Value.bool (congrArg Bool.not (decide_eq_false h_19))) (JO.ofLO (LO.pure (PO.move (v := str u_17) (congrArg str hg_18)))) ?_
        rintro _ _ ⟨rfl, rfl⟩
        refine JL.guardOn rfl rfl rfl (congrArg Value.bool (congrArg Bool.not (decide_eq_false h_19))) (JO.ofLO (LO.pure (PO.indexS (i := 0) (c := u_17.getD 0 0) Tryz.underlying9 rfl rfl (getD_some (by omega))))) ?_
        rintro _ _ ⟨rfl, rfl⟩
        have hu_20 := UInt8.toNat_lt (u_17.getD 0 0)
        refine JL.guardOn rfl rfl rfl (congrArg Value.bool (congrArg Bool.not (decide_eq_false h_19))) (JO.ofLO (LO.pure (PO.eqlI rfl rfl))) ?_
        rintro _ _ ⟨rfl, rfl⟩
        refine JL.pure rfl (PO.pickT (v := .bool (decide (((u_17.getD 0 0).toNat : Int) = 45))) (congrArg Value.bool (congrArg Bool.not (decide_eq_false h_19))) rfl) ?_
        refine JL.nil ?_
        refine JQ.seq ?_
        by_cases h_21 : ((u_17.getD 0 0).toNat : Int) = 45
        · skip
          have hm_22 := messageOf_one h_19 h_21
          refine JC.condT (congrArg Value.bool (decide_eq_true h_21)) ?_
          refine JC.region ?_
          refine JL.pure rfl (PO.move (v := str u_17) (congrArg str hg_18)) ?_
          refine JL.pure rfl (PO.sliceSl (i := 1) Tryz.underlying9 rfl rfl (by omega)) ?_
          refine JL.op rfl (JO.call [] Tryz.call220 rfl (N_sUnhex (u_17.drop 1) (by first | omega | (simp only [List.length_append, List.length_cons, List.length_nil, List.length_take, List.length_drop]; omega))) rfl (fun _ _ => trivial)) ?_
          rintro _ _ ⟨_, ⟨u_25, b_27, e_23, f_26, rfl, rfl⟩, rfl⟩
          refine JL.pure rfl (PO.move (v := .tuple #[str u_25, .bool b_27]) rfl) ?_
          refine JL.pure rfl (PO.extract (v := str u_25) rfl rfl) ?_
          refine JL.pure rfl (PO.extract (v := .bool b_27) rfl rfl) ?_
          refine JL.pure rfl (PO.assign (v := str u_25) rfl) ?_
          refine JL.nil ?_
          refine JQ.pick [0] (A := [rS o_a o_c o_]) rfl ?_
          exact JQ.cut ⟨he_7, he_8, he_9, he_10, he_11, (congrArg str (hm_22.trans (congrArg Prod.fst e_23)).symm), rfl⟩
        · skip
          have hm_28 := messageOf_no h_21
          refine JC.condF (congrArg Value.bool (decide_eq_false h_21)) ?_
          refine JC.skip ?_
          refine JQ.pick [0] (A := [rS o_a o_c o_]) rfl ?_
          exact JQ.cut ⟨he_7, he_8, he_9, he_10, he_11, (congrArg str hm_28.symm), rfl⟩
    · skip
      rintro e_29 _ ⟨he_30, he_31, he_32, he_33, he_34, he_35, rfl⟩
      have hml := messageOf_len u_17
      refine JQ.seq ?_
      refine JC.region ?_
      refine JL.pure rfl (PO.move (v := .slice o_a o_.length o_c) he_32) ?_
      refine JL.pure rfl (PO.move (v := str (messageOf u_17)) he_35) ?_
      refine JL.op rfl (JO.buildSlice (ps := [(0, str (messageOf u_17))]) (cur := #[str (messageOf u_17)]) Tryz.underlying23 Tryz.sizeOf9 Tryz.zeroValue9 rfl (by kernel_rfl) (by decide) (by decide)) ?_
      rintro _ _ ⟨a_36, rfl, rfl⟩
      refine JL.op rfl (JO.append' 1 (q := 1) (news := ([messageOf u_17] : List Str).map str) (n' := (o_ ++ ([messageOf u_17] : List Str)).length) (cs' := (o_ ++ ([messageOf u_17] : List Str)).map str) rfl Tryz.underlying23 Tryz.underlying23 Tryz.typeInfo9 rfl (by' := 16) rfl rfl rfl rfl rfl (fun w hw => Src.sees (hw.see (i := 0) rfl) (oneS _)) (by (try simp only [List.length_append, List.length_cons, List.length_nil, List.length_take, List.length_drop]); omega) (by (try simp only [List.length_append, List.length_cons, List.length_nil, List.length_take, List.length_drop]); omega) (by simp only [List.length_append, List.length_take, List.length_drop, List.length_cons, List.length_nil] <;> first | rfl | omega) (by simp only [List.map_append])) ?_
      rintro _ _ ⟨a_37, c_38, rfl, rfl⟩
      refine JL.pure rfl (PO.assign (v := .slice a_37 ((o_ ++ ([messageOf u_17] : List Str)).length) c_38) rfl) ?_
      refine JL.nil ?_
      refine JQ.blockN ?_
      refine JQ.seq ?_
      refine JC.region ?_
      refine JL.pure rfl (PO.move (v := .int .i64 ((i_ : Nat) : Int)) he_34) ?_
      refine JL.pure rfl (PO.add (c := ((i_ + 1 : Nat) : Int)) rfl rfl (wr (by omega))) ?_
      refine JL.pure rfl (PO.assign (v := .int .i64 ((i_ + 1 : Nat) : Int)) rfl) ?_
      refine JL.nil ?_
      refine JQ.pick [1] (A := [rS a_37 c_38 (o_ ++ ([messageOf u_17] : List Str))]) rfl ?_
      refine JQ.again (42 - (i_ + 1)) (by omega) ⟨(i_ + 1), a_37, c_38, (o_ ++ ([messageOf u_17] : List Str)), (by omega), (by simp only [List.length_append, List.length_cons, List.length_nil]; omega), (by rw [show 41 - i_ = (41 - (i_ + 1)) + 1 by omega, outsI, if_pos (by omega)] at hR; simp only [e_2, e_13, hg_18] at hR; exact hR), he_30, he_31, rfl, he_33, rfl, rfl, rfl⟩
  · skip
    rw [outsI_stop (by omega)] at hR
    have hRE := hR.symm
    refine JC.condF (congrArg Value.bool (decide_eq_false h_12)) ?_
    refine JC.exit ?_
    refine JQ.thenExit ?_
    refine JQ.thenExit ?_
    refine JQ.blockE ?_
    refine JQ.seq ?_
    refine JC.seq ?_
    refine JC.region ?_
    refine JL.pure rfl (PO.move (v := .slice o_a o_.length o_c) he_9) ?_
    refine JL.pure rfl (PO.assign (v := .slice o_a o_.length o_c) rfl) ?_
    refine JL.nil ?_
    refine JQ.seq ?_
    refine JC.ret ?_
    refine Done.one (.inl rfl) rfl (RV.tmp (v := .slice o_a o_.length o_c) rfl) (List.Sublist.refl _) ?_
    exact ⟨o_a, o_c, o_, (by unfold outsIn; exact hRE), (by omega), rfl, rfl⟩

theorem N_outsFrom (sa : Option Addr) (sc : Nat) (s : List Cell) (k : Int) (hs : s.length ≤ 1000000) (hk : -9223372036854775808 ≤ k ∧ k ≤ 9223372036854775807) (hsl : ∀ key, (getKey s key).length ≤ 1048576) :
    Ct Tryz.prog 117 [.slice sa s.length sc, .int .i64 k] ([]) (fun w => Sees w (.slice sa s.length sc) 2 s.length (s.flatMap encC) ∧ HexOk w) (fun v A' => ∃ r0a r0c r0, outsFrom s k = r0 ∧ r0.length ≤ 40 ∧ v = .slice r0a r0.length r0c ∧ A' = [rS r0a r0c r0]) := by
  refine Ct.introL Tryz.func117 rfl Tryz.ntmps117 (Nat.le_of_ble_eq_true rfl) fun w0 hpre hlow => ?_
  have hs_sa : Sees w0 _ _ _ _ := hpre.1
  refine JC.seq ?_
  refine JC.region ?_
  refine JL.pure rfl (PO.assign (v := .slice none 0 0) rfl) ?_
  refine JL.nil ?_
  refine JQ.seq ?_
  refine JC.seq ?_
  refine JC.region ?_
  refine JL.pure rfl (PO.move (v := .slice sa s.length sc) rfl) ?_
  refine JL.op rfl (JO.call [] Tryz.call112 rfl (N_outsIn sa sc s (by omega) hsl) rfl (fun w hw => ⟨hw.seeOut_ hs_sa (fun _ _ => List.not_mem_nil), hw.hex hlow hpre.2⟩)) ?_
  rintro _ _ ⟨_, ⟨l_3a, l_3c, l_3, e_1, f_4, rfl, rfl⟩, rfl⟩
  refine JL.pure rfl (PO.assign (v := .slice l_3a l_3.length l_3c) rfl) ?_
  refine JL.nil ?_
  refine JQ.seq ?_
  refine JC.seq ?_
  refine JC.region ?_
  refine JL.pure rfl (PO.move (v := .slice l_3a l_3.length l_3c) rfl) ?_
  refine JL.pure rfl (PO.move (v := .int .i64 k) rfl) ?_
  refine JL.pure rfl (PO.move (v := .slice l_3a l_3.length l_3c) rfl) ?_
  refine JL.pure rfl (PO.lenV Tryz.underlying23 rfl) ?_
  refine JL.op rfl (JO.call [] Tryz.call223 rfl (N_ibro k l_3.length) rfl (fun _ _ => trivial)) ?_
  rintro _ _ ⟨_, ⟨rfl, rfl⟩, rfl⟩
  have hbro4 := bro_le k l_3.length
  refine JL.facts fun hst => ?_
  obtain ⟨hf_5m, hf_5x, hf_5s, hf_5l⟩ := fits_of hst (i := 0) rfl
  have hcs_6 : ((l_3.drop (bro k l_3.length)).take (l_3.length - (bro k l_3.length))).length = l_3.length - (bro k l_3.length) := (by simp only [List.length_take, List.length_drop]; omega)
  refine JL.pure rfl (PO.castSl (k := ((l_3.drop (bro k l_3.length)).take (l_3.length - (bro k l_3.length))).length) (PO.sliceVl (i := (bro k l_3.length)) Tryz.underlying23 Tryz.sizeOf9 hf_5s rfl rfl (by omega)) (by simp only [List.length_take, List.length_drop]; omega)) ?_
  refine JL.op rfl (JO.call [] Tryz.call222 rfl (C_cloneS (subA 1 l_3a l_3c (bro k l_3.length)) (l_3c - (bro k l_3.length)) ((l_3.drop (bro k l_3.length)).take (l_3.length - (bro k l_3.length))) (by omega)) rfl (fun w hw => castSees (subS (hw.see (i := 0) rfl) (bro k l_3.length) l_3.length (by omega) (by omega)) (by simp only [List.length_take, List.length_drop]; omega))) ?_
  rintro _ _ ⟨_, ⟨a_7, c_8, rfl, rfl⟩, rfl⟩
  refine JL.pure rfl (PO.assign (v := .slice a_7 (((l_3.drop (bro k l_3.length)).take (l_3.length - (bro k l_3.length))).length) c_8) rfl) ?_
  refine JL.nil ?_
  refine JQ.seq ?_
  refine JC.ret ?_
  refine Done.one (.inl rfl) rfl (RV.tmp (v := .slice a_7 (((l_3.drop (bro k l_3.length)).take (l_3.length - (bro k l_3.length))).length) c_8) rfl) (List.sublist_append_left [rS a_7 c_8 ((l_3.drop (bro k l_3.length)).take (l_3.length - (bro k l_3.length)))] [rS l_3a l_3c l_3]) ?_
  exact ⟨a_7, c_8, ((l_3.drop (bro k l_3.length)).take (l_3.length - (bro k l_3.length))), (by unfold outsFrom; rw [e_1]), (by simp only [List.length_take, List.length_drop]; omega), rfl, rfl⟩

theorem N_sOutsFrom (sa : Option Addr) (sc : Nat) (s : List Cell) (k : Int) (hs : s.length ≤ 1000000) (hk : -9223372036854775808 ≤ k ∧ k ≤ 9223372036854775807) (hsl : ∀ key, (getKey s key).length ≤ 1048576) :
    Ct Tryz.prog 118 [.slice sa s.length sc, .int .i64 k] ([]) (fun w => Sees w (.slice sa s.length sc) 2 s.length (s.flatMap encC)) (fun v A' => ∃ r0a r0c r0, outsFrom s k = r0 ∧ r0.length ≤ 40 ∧ v = .slice r0a r0.length r0c ∧ A' = [rS r0a r0c r0]) := by
  refine Ct.intro Tryz.func118 rfl Tryz.ntmps118 (Nat.le_of_ble_eq_true rfl) fun w0 hpre => ?_
  have hs_sa : Sees w0 _ _ _ _ := hpre
  refine JC.seq ?_
  refine JC.region ?_
  refine JL.pure rfl (PO.assign (v := .slice none 0 0) rfl) ?_
  refine JL.nil ?_
  refine JQ.seq ?_
  refine JC.seq ?_
  refine JC.region ?_
  refine JL.pure rfl (PO.move (v := .slice sa s.length sc) rfl) ?_
  refine JL.op rfl (JO.call [] Tryz.call115 rfl (N_sOutsIn sa sc s (by omega) hsl) rfl (fun w hw => hw.seeOut_ hs_sa (fun _ _ => List.not_mem_nil))) ?_
  rintro _ _ ⟨_, ⟨l_3a, l_3c, l_3, e_1, f_4, rfl, rfl⟩, rfl⟩
  refine JL.pure rfl (PO.assign (v := .slice l_3a l_3.length l_3c) rfl) ?_
  refine JL.nil ?_
  refine JQ.seq ?_
  refine JC.seq ?_
  refine JC.region ?_
  refine JL.op rfl (JO.buildSlice (ps := []) (cur := #[]) Tryz.underlying23 Tryz.sizeOf9 Tryz.zeroValue9 rfl (by kernel_rfl) (by decide) (by decide)) ?_
  rintro _ _ ⟨a_5, rfl, rfl⟩
  refine JL.pure rfl (PO.move (v := .slice l_3a l_3.length l_3c) rfl) ?_
  refine JL.pure rfl (PO.move (v := .int .i64 k) rfl) ?_
  refine JL.pure rfl (PO.move (v := .slice l_3a l_3.length l_3c) rfl) ?_
  refine JL.pure rfl (PO.lenV Tryz.underlying23 rfl) ?_
  refine JL.op rfl (JO.call [] Tryz.call216 rfl (N_sbro k l_3.length) rfl (fun _ _ => trivial)) ?_
  rintro _ _ ⟨_, ⟨rfl, rfl⟩, rfl⟩
  have hbro5 := bro_le k l_3.length
  refine JL.facts fun hst => ?_
  obtain ⟨hf_6m, hf_6x, hf_6s, hf_6l⟩ := fits_of hst (i := 1) rfl
  have hcs_7 : ((l_3.drop (bro k l_3.length)).take (l_3.length - (bro k l_3.length))).length = l_3.length - (bro k l_3.length) := (by simp only [List.length_take, List.length_drop]; omega)
  refine JL.pure rfl (PO.castSl (k := ((l_3.drop (bro k l_3.length)).take (l_3.length - (bro k l_3.length))).length) (PO.sliceVl (i := (bro k l_3.length)) Tryz.underlying23 Tryz.sizeOf9 hf_6s rfl rfl (by omega)) (by simp only [List.length_take, List.length_drop]; omega)) ?_
  refine JL.op rfl (JO.append' 0 (q := (((l_3.drop (bro k l_3.length)).take (l_3.length - (bro k l_3.length))).length)) (news := ((l_3.drop (bro k l_3.length)).take (l_3.length - (bro k l_3.length))).map str) (n' := ((l_3.drop (bro k l_3.length)).take (l_3.length - (bro k l_3.length))).length) (cs' := ((l_3.drop (bro k l_3.length)).take (l_3.length - (bro k l_3.length))).map str) rfl Tryz.underlying23 Tryz.underlying23 Tryz.typeInfo9 rfl (by' := 16) rfl rfl rfl rfl rfl (fun w hw => Src.sees (castSees (subS (hw.see (i := 1) rfl) (bro k l_3.length) l_3.length (by omega) (by omega)) (by simp only [List.length_take, List.length_drop]; omega)) (oneS _)) (by (try simp only [List.length_append, List.length_cons, List.length_nil, List.length_take, List.length_drop]); omega) (by (try simp only [List.length_append, List.length_cons, List.length_nil, List.length_take, List.length_drop]); omega) (by (try simp only [List.length_take, List.length_drop]); first | rfl | omega) rfl) ?_
  rintro _ _ ⟨a_8, c_9, rfl, rfl⟩
  refine JL.pure rfl (PO.assign (v := .slice a_8 (((l_3.drop (bro k l_3.length)).take (l_3.length - (bro k l_3.length))).length) c_9) rfl) ?_
  refine JL.nil ?_
  refine JQ.seq ?_
  refine JC.ret ?_
  refine Done.one (.inl rfl) rfl (RV.tmp (v := .slice a_8 (((l_3.drop (bro k l_3.length)).take (l_3.length - (bro k l_3.length))).length) c_9) rfl) (List.sublist_append_left [rS a_8 c_9 ((l_3.drop (bro k l_3.length)).take (l_3.length - (bro k l_3.length)))] [rS l_3a l_3c l_3]) ?_
  exact ⟨a_8, c_9, ((l_3.drop (bro k l_3.length)).take (l_3.length - (bro k l_3.length))), (by unfold outsFrom; rw [e_1]), (by simp only [List.length_take, List.length_drop]; omega), rfl, rfl⟩

theorem C_l03Same (a b : Option Addr) (c c' : Nat) (s t : List Str) (hn : s.length ≤ 9223372036854775807) :
    Ct Tryz.prog 225 [.slice a s.length c, .slice b t.length c'] [] (fun w => Sees w (.slice a s.length c) 1 s.length (s.map str) ∧ Sees w (.slice b t.length c') 1 t.length (t.map str)) (fun r A' => r = .bool (decide (s = t)) ∧ A' = []) := by
  refine Ct.intro Tryz.func225 rfl Tryz.ntmps225 (Nat.le_of_ble_eq_true rfl) fun w0 hpre => ?_
  have hs_a : Sees w0 _ _ _ _ := hpre.1
  have hs_b : Sees w0 _ _ _ _ := hpre.2
  refine JC.seq ?_
  refine JC.region ?_
  refine JL.pure rfl (PO.assign (v := .bool false) rfl) ?_
  refine JL.nil ?_
  refine JQ.seq ?_
  refine JC.seq ?_
  refine JC.seq ?_
  refine JC.region ?_
  refine JL.pure rfl (PO.move (v := .slice a s.length c) rfl) ?_
  refine JL.pure rfl (PO.lenV Tryz.underlying23 rfl) ?_
  refine JL.pure rfl (PO.move (v := .slice b t.length c') rfl) ?_
  refine JL.pure rfl (PO.lenV Tryz.underlying23 rfl) ?_
  refine JL.pure rfl (PO.neqI rfl rfl) ?_
  refine JL.nil ?_
  refine JQ.seq ?_
  by_cases h_1 : ((s.length : Nat) : Int) = ((t.length : Nat) : Int)
  · skip
    have hlen := h_1
    refine JC.condF (congrArg Value.bool (congrArg Bool.not (decide_eq_true h_1))) ?_
    refine JC.skip ?_
    refine JQ.seq ?_
    refine JC.seq ?_
    refine JC.seq ?_
    refine JC.region ?_
    refine JL.pure rfl (PO.assign (v := .int .i64 0) rfl) ?_
    refine JL.nil ?_
    refine JQ.seq ?_
    refine JC.block ?_
    refine JC.loop (fun k_ e_ L_ => ∃ j : Nat, (j ≤ s.length) ∧ (s.take j = t.take j) ∧ (s.length = t.length) ∧ e_ 0 = .slice a s.length c ∧ e_ 1 = .slice b t.length c' ∧ e_ 5 = .int .i64 ((j : Nat) : Int) ∧ L_ = [] ∧ k_ = s.length - j) _ ⟨0, by omega, rfl, by omega, rfl, rfl, rfl, rfl, rfl⟩ ?_
    rintro _ e_2 _ ⟨j, hj, hE, hln, he_3, he_4, he_5, rfl, rfl⟩
    refine JC.seq ?_
    refine JC.seq ?_
    refine JC.region ?_
    refine JL.pure rfl (PO.move (v := .int .i64 ((j : Nat) : Int)) he_5) ?_
    refine JL.pure rfl (PO.move (v := .slice a s.length c) he_3) ?_
    refine JL.pure rfl (PO.lenV Tryz.underlying23 rfl) ?_
    refine JL.pure rfl (PO.lss rfl rfl) ?_
    refine JL.nil ?_
    refine JQ.seq ?_
    by_cases h_6 : ((j : Nat) : Int) < ((s.length : Nat) : Int)
    · skip
      have hlt : j < s.length := by omega
      refine JC.condT (congrArg Value.bool (decide_eq_true h_6)) ?_
      refine JC.skip ?_
      refine JQ.seq ?_
      refine JC.seq ?_
      refine JC.block ?_
      refine JC.seq ?_
      refine JC.regionA [] 8 mixed (by simp) ?_
      refine JA.takeP 0 rfl (by kernel_rfl) (NP.th (NP.bl (NP.th (NP.th (NP.bl (NP.th NP.body)))))) (by kernel_rfl) (by kernel_rfl) rfl (PO.move (v := .slice a s.length c) he_3) ?_
      refine JA.takeP 1 rfl (by kernel_rfl) (NP.th (NP.bl (NP.th (NP.th (NP.bl (NP.th NP.body)))))) (by kernel_rfl) (by kernel_rfl) rfl (PO.move (v := .int .i64 ((j : Nat) : Int)) he_5) ?_
      obtain ⟨hr_7, hr_7b, -⟩ := sees_some hs_a (by omega)
      refine JA.takeP 2 rfl (by kernel_rfl) (NP.th (NP.bl (NP.th (NP.th (NP.bl (NP.th NP.body)))))) (by kernel_rfl) (by kernel_rfl) rfl (PO.indexAddrV (i := j) Tryz.underlying23 Tryz.sizeOf9 hr_7 hr_7b rfl rfl (by omega)) ?_
      refine JA.take 3 rfl (by kernel_rfl) (NP.th (NP.bl (NP.th (NP.th (NP.bl (NP.th NP.body)))))) (by kernel_rfl) (by kernel_rfl) (by kernel_rfl) rfl (LO.loadS1 (v := str (s.getD j [])) hs_a (fun _ _ => List.not_mem_nil) rfl Tryz.isAgg9 (atS (by omega))) ?_
      refine JA.takeP 4 rfl (by kernel_rfl) (NP.th (NP.bl (NP.th (NP.th (NP.bl (NP.th NP.body)))))) (by kernel_rfl) (by kernel_rfl) rfl (PO.move (v := .slice b t.length c') he_4) ?_
      refine JA.takeP 5 rfl (by kernel_rfl) (NP.th (NP.bl (NP.th (NP.th (NP.bl (NP.th NP.body)))))) (by kernel_rfl) (by kernel_rfl) rfl (PO.move (v := .int .i64 ((j : Nat) : Int)) he_5) ?_
      obtain ⟨hr_8, hr_8b, -⟩ := sees_some hs_b (by omega)
      refine JA.takeP 6 rfl (by kernel_rfl) (NP.th (NP.bl (NP.th (NP.th (NP.bl (NP.th NP.body)))))) (by kernel_rfl) (by kernel_rfl) rfl (PO.indexAddrV (i := j) Tryz.underlying23 Tryz.sizeOf9 hr_8 hr_8b rfl rfl (by omega)) ?_
      refine JA.take 7 rfl (by kernel_rfl) (NP.th (NP.bl (NP.th (NP.th (NP.bl (NP.th NP.body)))))) (by kernel_rfl) (by kernel_rfl) (by kernel_rfl) rfl (LO.loadS1 (v := str (t.getD j [])) hs_b (fun _ _ => List.not_mem_nil) rfl Tryz.isAgg9 (atS (by omega))) ?_
      refine JA.takeP 8 rfl (by kernel_rfl) (NP.th (NP.bl (NP.th (NP.th (NP.bl (NP.th NP.body)))))) (by kernel_rfl) (by kernel_rfl) rfl (PO.neqS rfl rfl) ?_
      refine JA.done (by kernel_rfl) ?_
      refine JQ.seq ?_
      by_cases h_9 : (s.getD j []) = (t.getD j [])
      · skip
        have heq := h_9
        refine JC.condF (congrArg Value.bool (congrArg Bool.not (decide_eq_true h_9))) ?_
        refine JC.skip ?_
        refine JQ.blockN ?_
        refine JQ.seq ?_
        refine JC.region ?_
        refine JL.pure rfl (PO.move (v := .int .i64 ((j : Nat) : Int)) he_5) ?_
        refine JL.pure rfl (PO.add (c := ((j + 1 : Nat) : Int)) rfl rfl (wr (by omega))) ?_
        refine JL.pure rfl (PO.assign (v := .int .i64 ((j + 1 : Nat) : Int)) rfl) ?_
        refine JL.nil ?_
        refine JQ.again (s.length - (j + 1)) (by omega) ⟨j + 1, by omega, take_succ_eq [] hE hlt hln heq, hln, he_3, he_4, rfl, rfl, rfl⟩
      · skip
        have hne := h_9
        refine JC.condT (congrArg Value.bool (congrArg Bool.not (decide_eq_false h_9))) ?_
        refine JC.seq ?_
        refine JC.region ?_
        refine JL.pure rfl (PO.assign (v := .bool false) rfl) ?_
        refine JL.nil ?_
        refine JQ.seq ?_
        refine JC.ret ?_
        refine JQ.blockRet ?_
        refine JQ.thenRet ?_
        refine JQ.thenRet ?_
        refine JQ.blockRet ?_
        refine JQ.thenRet ?_
        refine Done.one (.inl rfl) rfl (RV.tmp (v := .bool false) rfl) (List.nil_sublist _) ?_
        refine ⟨?_, rfl⟩
        rw [decide_eq_false (fun h => hne (by rw [h]))]
    · skip
      refine JC.condF (congrArg Value.bool (decide_eq_false h_6)) ?_
      refine JC.exit ?_
      refine JQ.thenExit ?_
      refine JQ.thenExit ?_
      refine JQ.blockE ?_
      refine JQ.seq ?_
      refine JC.seq ?_
      refine JC.region ?_
      refine JL.pure rfl (PO.assign (v := .bool true) rfl) ?_
      refine JL.nil ?_
      refine JQ.seq ?_
      refine JC.ret ?_
      refine Done.one (.inl rfl) rfl (RV.tmp (v := .bool true) rfl) (List.nil_sublist _) ?_
      refine ⟨?_, rfl⟩
      rw [decide_eq_true (take_all_eq hE (by omega) (by omega))]
  · skip
    have hlen := h_1
    refine JC.condT (congrArg Value.bool (congrArg Bool.not (decide_eq_false h_1))) ?_
    refine JC.seq ?_
    refine JC.region ?_
    refine JL.pure rfl (PO.assign (v := .bool false) rfl) ?_
    refine JL.nil ?_
    refine JQ.seq ?_
    refine JC.ret ?_
    refine JQ.thenRet ?_
    refine Done.one (.inl rfl) rfl (RV.tmp (v := .bool false) rfl) (List.nil_sublist _) ?_
    refine ⟨?_, rfl⟩
    rw [decide_eq_false (fun h => by rw [h] at hlen; omega)]

theorem C_eqS (a b : Option Addr) (c c' : Nat) (s t : List Str) (hn : s.length ≤ 9223372036854775807) :
    Ct Tryz.prog 224 [.slice a s.length c, .slice b t.length c'] [] (fun w => Sees w (.slice a s.length c) 1 s.length (s.map str) ∧ Sees w (.slice b t.length c') 1 t.length (t.map str)) (fun r A' => r = .bool (decide (s = t)) ∧ A' = []) := by
  refine Ct.intro Tryz.func224 rfl Tryz.ntmps224 (Nat.le_of_ble_eq_true rfl) fun w0 hpre => ?_
  have hs_a : Sees w0 _ _ _ _ := hpre.1
  have hs_b : Sees w0 _ _ _ _ := hpre.2
  refine JC.seq ?_
  refine JC.region ?_
  refine JL.pure rfl (PO.assign (v := .bool false) rfl) ?_
  refine JL.nil ?_
  refine JQ.seq ?_
  refine JC.seq ?_
  refine JC.seq ?_
  refine JC.region ?_
  refine JL.pure rfl (PO.move (v := .slice a s.length c) rfl) ?_
  refine JL.pure rfl (PO.lenV Tryz.underlying23 rfl) ?_
  refine JL.pure rfl (PO.move (v := .slice b t.length c') rfl) ?_
  refine JL.pure rfl (PO.lenV Tryz.underlying23 rfl) ?_
  refine JL.pure rfl (PO.neqI rfl rfl) ?_
  refine JL.nil ?_
  refine JQ.seq ?_
  by_cases h_1 : ((s.length : Nat) : Int) = ((t.length : Nat) : Int)
  · skip
    have hlen := h_1
    refine JC.condF (congrArg Value.bool (congrArg Bool.not (decide_eq_true h_1))) ?_
    refine JC.skip ?_
    refine JQ.seq ?_
    refine JC.seq ?_
    refine JC.seq ?_
    refine JC.region ?_
    refine JL.pure rfl (PO.move (v := .slice a s.length c) rfl) ?_
    refine JL.pure rfl (PO.lenV Tryz.underlying23 rfl) ?_
    refine JL.pure rfl (PO.move (v := .int .i64 0) rfl) ?_
    refine JL.nil ?_
    refine JQ.seq ?_
    refine JC.block ?_
    refine JC.loop (fun k_ e_ L_ => ∃ j : Nat, (j ≤ s.length) ∧ (s.take j = t.take j) ∧ (s.length = t.length) ∧ e_ 0 = .slice a s.length c ∧ e_ 1 = .slice b t.length c' ∧ e_ 12 = .int .i64 ((s.length : Nat) : Int) ∧ e_ 13 = .int .i64 ((j : Nat) : Int) ∧ L_ = [] ∧ k_ = s.length - j) _ ⟨0, by omega, rfl, by omega, rfl, rfl, rfl, rfl, rfl, rfl⟩ ?_
    rintro _ e_2 _ ⟨j, hj, hE, hln, he_3, he_4, he_5, he_6, rfl, rfl⟩
    refine JC.seq ?_
    refine JC.region ?_
    refine JL.pure rfl (PO.lss he_6 he_5) ?_
    refine JL.nil ?_
    refine JQ.seq ?_
    refine JC.seq ?_
    by_cases h_7 : ((j : Nat) : Int) < ((s.length : Nat) : Int)
    · skip
      have hlt : j < s.length := by omega
      refine JC.condT (congrArg Value.bool (decide_eq_true h_7)) ?_
      refine JC.skip ?_
      refine JQ.seq ?_
      refine JC.seq ?_
      refine JC.block ?_
      refine JC.seq ?_
      refine JC.region ?_
      refine JL.pure rfl (PO.move (v := .int .i64 ((j : Nat) : Int)) he_6) ?_
      refine JL.pure rfl (PO.assign (v := .int .i64 ((j : Nat) : Int)) rfl) ?_
      refine JL.nil ?_
      refine JQ.seq ?_
      refine JC.seq ?_
      refine JC.regionA [] 8 mixed (by simp) ?_
      refine JA.takeP 0 rfl (by kernel_rfl) (NP.th (NP.bl (NP.th (NP.th (NP.bl (NP.th NP.body)))))) (by kernel_rfl) (by kernel_rfl) rfl (PO.move (v := .slice a s.length c) he_3) ?_
      refine JA.takeP 1 rfl (by kernel_rfl) (NP.th (NP.bl (NP.th (NP.th (NP.bl (NP.th NP.body)))))) (by kernel_rfl) (by kernel_rfl) rfl (PO.move (v := .int .i64 ((j : Nat) : Int)) rfl) ?_
      obtain ⟨hr_8, hr_8b, -⟩ := sees_some hs_a (by omega)
      refine JA.takeP 2 rfl (by kernel_rfl) (NP.th (NP.bl (NP.th (NP.th (NP.bl (NP.th NP.body)))))) (by kernel_rfl) (by kernel_rfl) rfl (PO.indexAddrV (i := j) Tryz.underlying23 Tryz.sizeOf9 hr_8 hr_8b rfl rfl (by omega)) ?_
      refine JA.take 3 rfl (by kernel_rfl) (NP.th (NP.bl (NP.th (NP.th (NP.bl (NP.th NP.body)))))) (by kernel_rfl) (by kernel_rfl) (by kernel_rfl) rfl (LO.loadS1 (v := str (s.getD j [])) hs_a (fun _ _ => List.not_mem_nil) rfl Tryz.isAgg9 (atS (by omega))) ?_
      refine JA.takeP 4 rfl (by kernel_rfl) (NP.th (NP.bl (NP.th (NP.th (NP.bl (NP.th NP.body)))))) (by kernel_rfl) (by kernel_rfl) rfl (PO.move (v := .slice b t.length c') he_4) ?_
      refine JA.takeP 5 rfl (by kernel_rfl) (NP.th (NP.bl (NP.th (NP.th (NP.bl (NP.th NP.body)))))) (by kernel_rfl) (by kernel_rfl) rfl (PO.move (v := .int .i64 ((j : Nat) : Int)) rfl) ?_
      obtain ⟨hr_9, hr_9b, -⟩ := sees_some hs_b (by omega)
      refine JA.takeP 6 rfl (by kernel_rfl) (NP.th (NP.bl (NP.th (NP.th (NP.bl (NP.th NP.body)))))) (by kernel_rfl) (by kernel_rfl) rfl (PO.indexAddrV (i := j) Tryz.underlying23 Tryz.sizeOf9 hr_9 hr_9b rfl rfl (by omega)) ?_
      refine JA.take 7 rfl (by kernel_rfl) (NP.th (NP.bl (NP.th (NP.th (NP.bl (NP.th NP.body)))))) (by kernel_rfl) (by kernel_rfl) (by kernel_rfl) rfl (LO.loadS1 (v := str (t.getD j [])) hs_b (fun _ _ => List.not_mem_nil) rfl Tryz.isAgg9 (atS (by omega))) ?_
      refine JA.takeP 8 rfl (by kernel_rfl) (NP.th (NP.bl (NP.th (NP.th (NP.bl (NP.th NP.body)))))) (by kernel_rfl) (by kernel_rfl) rfl (PO.neqS rfl rfl) ?_
      refine JA.done (by kernel_rfl) ?_
      refine JQ.seq ?_
      by_cases h_10 : (s.getD j []) = (t.getD j [])
      · skip
        have heq := h_10
        refine JC.condF (congrArg Value.bool (congrArg Bool.not (decide_eq_true h_10))) ?_
        refine JC.skip ?_
        refine JQ.blockN ?_
        refine JQ.seq ?_
        refine JC.region ?_
        refine JL.pure rfl (PO.add (c := ((j + 1 : Nat) : Int)) he_6 rfl (wr (by omega))) ?_
        refine JL.pure rfl (PO.move (v := .int .i64 ((j + 1 : Nat) : Int)) rfl) ?_
        refine JL.nil ?_
        refine JQ.again (s.length - (j + 1)) (by omega) ⟨j + 1, by omega, take_succ_eq [] hE hlt hln heq, hln, he_3, he_4, he_5, rfl, rfl, rfl⟩
      · skip
        have hne := h_10
        refine JC.condT (congrArg Value.bool (congrArg Bool.not (decide_eq_false h_10))) ?_
        refine JC.seq ?_
        refine JC.region ?_
        refine JL.pure rfl (PO.assign (v := .bool false) rfl) ?_
        refine JL.nil ?_
        refine JQ.seq ?_
        refine JC.ret ?_
        refine JQ.blockRet ?_
        refine JQ.thenRet ?_
        refine JQ.thenRet ?_
        refine JQ.blockRet ?_
        refine JQ.thenRet ?_
        refine Done.one (.inl rfl) rfl (RV.tmp (v := .bool false) rfl) (List.nil_sublist _) ?_
        refine ⟨?_, rfl⟩
        rw [decide_eq_false (fun h => hne (by rw [h]))]
    · skip
      refine JC.condF (congrArg Value.bool (decide_eq_false h_7)) ?_
      refine JC.exit ?_
      refine JQ.thenExit ?_
      refine JQ.thenExit ?_
      refine JQ.blockE ?_
      refine JQ.seq ?_
      refine JC.seq ?_
      refine JC.region ?_
      refine JL.pure rfl (PO.assign (v := .bool true) rfl) ?_
      refine JL.nil ?_
      refine JQ.seq ?_
      refine JC.ret ?_
      refine Done.one (.inl rfl) rfl (RV.tmp (v := .bool true) rfl) (List.nil_sublist _) ?_
      refine ⟨?_, rfl⟩
      rw [decide_eq_true (take_all_eq hE (by omega) (by omega))]
  · skip
    have hlen := h_1
    refine JC.condT (congrArg Value.bool (congrArg Bool.not (decide_eq_false h_1))) ?_
    refine JC.seq ?_
    refine JC.region ?_
    refine JL.pure rfl (PO.assign (v := .bool false) rfl) ?_
    refine JL.nil ?_
    refine JQ.seq ?_
    refine JC.ret ?_
    refine JQ.thenRet ?_
    refine Done.one (.inl rfl) rfl (RV.tmp (v := .bool false) rfl) (List.nil_sublist _) ?_
    refine ⟨?_, rfl⟩
    rw [decide_eq_false (fun h => by rw [h] at hlen; omega)]

theorem N_igoOn (sa : Option Addr) (sc : Nat) (s : List Str) (ta : Option Addr) (tc : Nat) (t : List Str) (hs : s.length ≤ 1000000000) (ht : t.length ≤ 1000000000) :
    Ct Tryz.prog 119 [.slice sa s.length sc, .slice ta t.length tc] ([]) (fun w => Sees w (.slice sa s.length sc) 1 s.length (s.map str) ∧ Sees w (.slice ta t.length tc) 1 t.length (t.map str)) (fun v A' => ∃ r0, outsGoOn s t = r0 ∧ v = .bool r0 ∧ A' = []) := by
  refine Ct.intro Tryz.func119 rfl Tryz.ntmps119 (Nat.le_of_ble_eq_true rfl) fun w0 hpre => ?_
  have hs_sa : Sees w0 _ _ _ _ := hpre.1
  have hs_ta : Sees w0 _ _ _ _ := hpre.2
  refine JC.seq ?_
  refine JC.region ?_
  refine JL.pure rfl (PO.assign (v := .bool false) rfl) ?_
  refine JL.nil ?_
  refine JQ.seq ?_
  refine JC.seq ?_
  refine JC.region ?_
  refine JL.pure rfl (PO.move (v := .slice sa s.length sc) rfl) ?_
  refine JL.pure rfl (PO.lenV Tryz.underlying23 rfl) ?_
  refine JL.pure rfl (PO.move (v := .slice ta t.length tc) rfl) ?_
  refine JL.pure rfl (PO.lenV Tryz.underlying23 rfl) ?_
  refine JL.pure rfl (PO.leq rfl rfl) ?_
  refine JL.pure rfl (PO.move (v := .bool (decide (((s.length : Nat) : Int) ≤ ((t.length : Nat) : Int)))) rfl) ?_
  by_cases h_1 : ((s.length : Nat) : Int) ≤ ((t.length : Nat) : Int)
  · skip
    refine JL.guardOn rfl rfl rfl (congrArg Value.bool (decide_eq_true h_1)) (JO.ofLO (LO.pure (PO.move (v := .slice sa s.length sc) rfl))) ?_
    rintro _ _ ⟨rfl, rfl⟩
    refine JL.guardOn rfl rfl rfl (congrArg Value.bool (decide_eq_true h_1)) (JO.ofLO (LO.pure (PO.move (v := .slice ta t.length tc) rfl))) ?_
    rintro _ _ ⟨rfl, rfl⟩
    refine JL.guardOn rfl rfl rfl (congrArg Value.bool (decide_eq_true h_1)) (JO.ofLO (LO.pure (PO.move (v := .slice sa s.length sc) rfl))) ?_
    rintro _ _ ⟨rfl, rfl⟩
    refine JL.guardOn rfl rfl rfl (congrArg Value.bool (decide_eq_true h_1)) (JO.ofLO (LO.pure (PO.lenV Tryz.underlying23 rfl))) ?_
    rintro _ _ ⟨rfl, rfl⟩
    obtain ⟨hf_2m, hf_2x, hf_2s, hf_2l⟩ := sees_fits hs_ta
    have hcs_3 : (t.take s.length).length = s.length := (by simp only [List.length_take, List.length_drop]; omega)
    refine JL.guardOn rfl rfl rfl (congrArg Value.bool (decide_eq_true h_1)) (JO.ofLO (LO.pure (PO.castSl (k := (t.take s.length).length) (PO.sliceVh (j := s.length) Tryz.underlying23 Tryz.sizeOf9 hf_2s rfl rfl (by omega)) (by simp only [List.length_take, List.length_drop]; omega)))) ?_
    rintro _ _ ⟨rfl, rfl⟩
    refine JL.guardOn rfl rfl rfl (congrArg Value.bool (decide_eq_true h_1)) (JO.call [] Tryz.call224 rfl (C_eqS sa ta sc tc s (t.take s.length) (by omega)) rfl (fun w hw => ⟨hw.seeOut_ hs_sa (fun _ _ => List.not_mem_nil), castSees (hiS (hw.seeOut_ hs_ta (fun _ _ => List.not_mem_nil)) s.length (by omega)) (by simp only [List.length_take, List.length_drop]; omega)⟩)) ?_
    rintro _ _ ⟨_, ⟨rfl, rfl⟩, rfl⟩
    refine JL.pure rfl (PO.pickT (v := .bool (decide (s = (t.take s.length)))) (congrArg Value.bool (decide_eq_true h_1)) rfl) ?_
    refine JL.pure rfl (PO.assign (v := .bool (decide (s = (t.take s.length)))) rfl) ?_
    refine JL.nil ?_
    refine JQ.seq ?_
    refine JC.ret ?_
    refine Done.one (.inl rfl) rfl (RV.tmp (v := .bool (decide (s = (t.take s.length)))) rfl) (List.nil_sublist _) ?_
    exact ⟨(decide (s = (t.take s.length))), (by unfold outsGoOn; first | (simp_all; done) | (simp_all; omega)), rfl, rfl⟩
  · skip
    refine JL.guardOff (b := false) rfl rfl rfl (congrArg Value.bool (decide_eq_false h_1)) ?_
    refine JL.guardOff (b := false) rfl rfl rfl (congrArg Value.bool (decide_eq_false h_1)) ?_
    refine JL.guardOff (b := false) rfl rfl rfl (congrArg Value.bool (decide_eq_false h_1)) ?_
    refine JL.guardOff (b := false) rfl rfl rfl (congrArg Value.bool (decide_eq_false h_1)) ?_
    refine JL.guardOff (b := false) rfl rfl rfl (congrArg Value.bool (decide_eq_false h_1)) ?_
    refine JL.guardOff (b := false) rfl rfl rfl (congrArg Value.bool (decide_eq_false h_1)) ?_
    refine JL.pure rfl (PO.pickF (v := .bool false) (congrArg Value.bool (decide_eq_false h_1)) rfl) ?_
    refine JL.pure rfl (PO.assign (v := .bool false) rfl) ?_
    refine JL.nil ?_
    refine JQ.seq ?_
    refine JC.ret ?_
    refine Done.one (.inl rfl) rfl (RV.tmp (v := .bool false) rfl) (List.nil_sublist _) ?_
    exact ⟨false, (by unfold outsGoOn; first | (simp_all; done) | (simp_all; omega)), rfl, rfl⟩

theorem N_sgoOn (sa : Option Addr) (sc : Nat) (s : List Str) (ta : Option Addr) (tc : Nat) (t : List Str) (hs : s.length ≤ 1000000000) (ht : t.length ≤ 1000000000) :
    Ct Tryz.prog 120 [.slice sa s.length sc, .slice ta t.length tc] ([]) (fun w => Sees w (.slice sa s.length sc) 1 s.length (s.map str) ∧ Sees w (.slice ta t.length tc) 1 t.length (t.map str)) (fun v A' => ∃ r0, outsGoOn s t = r0 ∧ v = .bool r0 ∧ A' = []) := by
  refine Ct.intro Tryz.func120 rfl Tryz.ntmps120 (Nat.le_of_ble_eq_true rfl) fun w0 hpre => ?_
  have hs_sa : Sees w0 _ _ _ _ := hpre.1
  have hs_ta : Sees w0 _ _ _ _ := hpre.2
  refine JC.seq ?_
  refine JC.region ?_
  refine JL.pure rfl (PO.assign (v := .bool false) rfl) ?_
  refine JL.nil ?_
  refine JQ.seq ?_
  refine JC.seq ?_
  refine JC.region ?_
  refine JL.pure rfl (PO.move (v := .slice sa s.length sc) rfl) ?_
  refine JL.pure rfl (PO.lenV Tryz.underlying23 rfl) ?_
  refine JL.pure rfl (PO.move (v := .slice ta t.length tc) rfl) ?_
  refine JL.pure rfl (PO.lenV Tryz.underlying23 rfl) ?_
  refine JL.pure rfl (PO.leq rfl rfl) ?_
  refine JL.pure rfl (PO.move (v := .bool (decide (((s.length : Nat) : Int) ≤ ((t.length : Nat) : Int)))) rfl) ?_
  by_cases h_1 : ((s.length : Nat) : Int) ≤ ((t.length : Nat) : Int)
  · skip
    refine JL.guardOn rfl rfl rfl (congrArg Value.bool (decide_eq_true h_1)) (JO.ofLO (LO.pure (PO.move (v := .slice sa s.length sc) rfl))) ?_
    rintro _ _ ⟨rfl, rfl⟩
    refine JL.guardOn rfl rfl rfl (congrArg Value.bool (decide_eq_true h_1)) (JO.ofLO (LO.pure (PO.move (v := .slice ta t.length tc) rfl))) ?_
    rintro _ _ ⟨rfl, rfl⟩
    refine JL.guardOn rfl rfl rfl (congrArg Value.bool (decide_eq_true h_1)) (JO.ofLO (LO.pure (PO.move (v := .slice sa s.length sc) rfl))) ?_
    rintro _ _ ⟨rfl, rfl⟩
    refine JL.guardOn rfl rfl rfl (congrArg Value.bool (decide_eq_true h_1)) (JO.ofLO (LO.pure (PO.lenV Tryz.underlying23 rfl))) ?_
    rintro _ _ ⟨rfl, rfl⟩
    obtain ⟨hf_2m, hf_2x, hf_2s, hf_2l⟩ := sees_fits hs_ta
    have hcs_3 : (t.take s.length).length = s.length := (by simp only [List.length_take, List.length_drop]; omega)
    refine JL.guardOn rfl rfl rfl (congrArg Value.bool (decide_eq_true h_1)) (JO.ofLO (LO.pure (PO.castSl (k := (t.take s.length).length) (PO.sliceVh (j := s.length) Tryz.underlying23 Tryz.sizeOf9 hf_2s rfl rfl (by omega)) (by simp only [List.length_take, List.length_drop]; omega)))) ?_
    rintro _ _ ⟨rfl, rfl⟩
    refine JL.guardOn rfl rfl rfl (congrArg Value.bool (decide_eq_true h_1)) (JO.call [] Tryz.call225 rfl (C_l03Same sa ta sc tc s (t.take s.length) (by omega)) rfl (fun w hw => ⟨hw.seeOut_ hs_sa (fun _ _ => List.not_mem_nil), castSees (hiS (hw.seeOut_ hs_ta (fun _ _ => List.not_mem_nil)) s.length (by omega)) (by simp only [List.length_take, List.length_drop]; omega)⟩)) ?_
    rintro _ _ ⟨_, ⟨rfl, rfl⟩, rfl⟩
    refine JL.pure rfl (PO.pickT (v := .bool (decide (s = (t.take s.length)))) (congrArg Value.bool (decide_eq_true h_1)) rfl) ?_
    refine JL.pure rfl (PO.assign (v := .bool (decide (s = (t.take s.length)))) rfl) ?_
    refine JL.nil ?_
    refine JQ.seq ?_
    refine JC.ret ?_
    refine Done.one (.inl rfl) rfl (RV.tmp (v := .bool (decide (s = (t.take s.length)))) rfl) (List.nil_sublist _) ?_
    exact ⟨(decide (s = (t.take s.length))), (by unfold outsGoOn; first | (simp_all; done) | (simp_all; omega)), rfl, rfl⟩
  · skip
    refine JL.guardOff (b := false) rfl rfl rfl (congrArg Value.bool (decide_eq_false h_1)) ?_
    refine JL.guardOff (b := false) rfl rfl rfl (congrArg Value.bool (decide_eq_false h_1)) ?_
    refine JL.guardOff (b := false) rfl rfl rfl (congrArg Value.bool (decide_eq_false h_1)) ?_
    refine JL.guardOff (b := false) rfl rfl rfl (congrArg Value.bool (decide_eq_false h_1)) ?_
    refine JL.guardOff (b := false) rfl rfl rfl (congrArg Value.bool (decide_eq_false h_1)) ?_
    refine JL.guardOff (b := false) rfl rfl rfl (congrArg Value.bool (decide_eq_false h_1)) ?_
    refine JL.pure rfl (PO.pickF (v := .bool false) (congrArg Value.bool (decide_eq_false h_1)) rfl) ?_
    refine JL.pure rfl (PO.assign (v := .bool false) rfl) ?_
    refine JL.nil ?_
    refine JQ.seq ?_
    refine JC.ret ?_
    refine Done.one (.inl rfl) rfl (RV.tmp (v := .bool false) rfl) (List.nil_sublist _) ?_
    exact ⟨false, (by unfold outsGoOn; first | (simp_all; done) | (simp_all; omega)), rfl, rfl⟩

theorem D_dOutsIn (pa : Option Addr) (pc : Nat) (p : Str) (hp : p.length ≤ 1048576)  :
    Ct Tryz.prog 111 [.slice pa p.length pc] [] (fun w => Sees w (.slice pa p.length pc) 1 p.length (p.map encB)) (fun v A' => ∃ r0a r0c r0, (r0.length ≤ 12 ∧ ∀ c ∈ r0, c.1.length ≤ 1048576 ∧ c.2.length ≤ 1048576) ∧ v = .slice r0a r0.length r0c ∧ A' = [rC r0a r0c r0]) := by
  refine Ct.intro Tryz.func111 rfl Tryz.ntmps111 (Nat.le_of_ble_eq_true rfl) fun w0 hpre => ?_
  have hs_pa : Sees w0 _ _ _ _ := hpre
  refine JC.seq ?_
  refine JC.region ?_
  refine JL.pure rfl (PO.assign (v := .slice none 0 0) rfl) ?_
  refine JL.nil ?_
  refine JQ.seq ?_
  refine JC.seq ?_
  refine JC.region ?_
  refine JL.pure rfl (PO.move (v := .slice pa p.length pc) rfl) ?_
  refine JL.op rfl (JO.call [] Tryz.call157 rfl (D_new pa pc p (by omega)) rfl (fun w hw => hw.seeOut_ hs_pa (fun _ _ => List.not_mem_nil))) ?_
  rintro _ _ ⟨_, ⟨c_1, qs_2, -, rfl, rfl⟩, rfl⟩
  refine JL.op rfl (JO.call [0] Tryz.call210 rfl (D_mach12 c_1 pa pc p 0 qs_2 (by omega) (by omega)) rfl (fun w hw => ⟨hw.seeOut_ hs_pa (fun _ _ => List.not_mem_nil), hw.apart hs_pa (fun _ _ => List.not_mem_nil) (by simp)⟩)) ?_
  rintro _ _ ⟨_, ⟨qp_4, qs_5, x_7, m_8, fq_6, k_9, rfl, rfl⟩, rfl⟩
  refine JL.pure rfl (PO.field1 Tryz.underlying32 rfl rfl Tryz.isAgg29 rfl) ?_
  refine JL.pure rfl (PO.assign (v := .slice x_7.a0 m_8.s.length x_7.c0) rfl) ?_
  refine JL.nil ?_
  refine JQ.seq ?_
  refine JC.ret ?_
  refine JQ.perm (pick_perm [1] (A := [rC x_7.a0 x_7.c0 m_8.s]) (F := [cb c_1 pa pc p qp_4 qs_5, rS x_7.a1 x_7.c1 m_8.r, rS x_7.a2 x_7.c2 m_8.w]) rfl).symm ?_
  refine Done.one (.inl rfl) rfl (RV.tmp (v := .slice x_7.a0 m_8.s.length x_7.c0) rfl) (List.sublist_append_left [rC x_7.a0 x_7.c0 m_8.s] [cb c_1 pa pc p qp_4 qs_5, rS x_7.a1 x_7.c1 m_8.r, rS x_7.a2 x_7.c2 m_8.w]) ?_
  exact ⟨x_7.a0, x_7.c0, m_8.s, ⟨by have := k_9.1; omega, k_9.2.2.2⟩, rfl, rfl⟩

theorem D_dOutsFrom (pa : Option Addr) (pc : Nat) (p : Str) (hp : p.length ≤ 1048576)  :
    Ct Tryz.prog 113 [.slice pa p.length pc] [] (fun w => Sees w (.slice pa p.length pc) 1 p.length (p.map encB)) (fun v A' => ∃ r0a r0c r0 r1, (r0.length ≤ 12 ∧ ∀ c ∈ r0, c.1.length ≤ 1048576 ∧ c.2.length ≤ 1048576) ∧ (-9223372036854775808 ≤ r1 ∧ r1 ≤ 9223372036854775807) ∧ v = .tuple #[.slice r0a r0.length r0c, .int .i64 r1] ∧ A' = [rC r0a r0c r0]) := by
  refine Ct.intro Tryz.func113 rfl Tryz.ntmps113 (Nat.le_of_ble_eq_true rfl) fun w0 hpre => ?_
  have hs_pa : Sees w0 _ _ _ _ := hpre
  refine JC.seq ?_
  refine JC.region ?_
  refine JL.pure rfl (PO.assign (v := .slice none 0 0) rfl) ?_
  refine JL.pure rfl (PO.assign (v := .int .i64 0) rfl) ?_
  refine JL.nil ?_
  refine JQ.seq ?_
  refine JC.seq ?_
  refine JC.region ?_
  refine JL.pure rfl (PO.move (v := .slice pa p.length pc) rfl) ?_
  refine JL.op rfl (JO.call [] Tryz.call157 rfl (D_new pa pc p (by omega)) rfl (fun w hw => hw.seeOut_ hs_pa (fun _ _ => List.not_mem_nil))) ?_
  rintro _ _ ⟨_, ⟨c_1, qs_2, -, rfl, rfl⟩, rfl⟩
  refine JL.pure rfl (PO.assign (v := .pointer (some ⟨c_1, 0, none⟩)) rfl) ?_
  refine JL.nil ?_
  refine JQ.seq ?_
  refine JC.seq ?_
  refine JC.region ?_
  refine JL.pure rfl (PO.move (v := .pointer (some ⟨c_1, 0, none⟩)) rfl) ?_
  refine JL.op rfl (JO.call [0] Tryz.call210 rfl (D_mach12 c_1 pa pc p 0 qs_2 (by omega) (by omega)) rfl (fun w hw => ⟨hw.seeOut_ hs_pa (fun _ _ => List.not_mem_nil), hw.apart hs_pa (fun _ _ => List.not_mem_nil) (by simp)⟩)) ?_
  rintro _ _ ⟨_, ⟨qp_4, qs_5, x_7, m_8, fq_6, k_9, rfl, rfl⟩, rfl⟩
  refine JL.pure rfl (PO.field1 Tryz.underlying32 rfl rfl Tryz.isAgg29 rfl) ?_
  refine JL.pure rfl (PO.move (v := .pointer (some ⟨c_1, 0, none⟩)) rfl) ?_
  refine JL.op rfl (JO.buildSlice (ps := [(0, .int .i64 0), (1, .int .i64 1), (2, .int .i64 2), (3, .int .i64 9), (4, .int .i64 (-1))]) (cur := #[.int .i64 0, .int .i64 1, .int .i64 2, .int .i64 9, .int .i64 (-1)]) Tryz.underlying70 Tryz.sizeOf3 Tryz.zeroValue3 rfl (by kernel_rfl) (by decide) (by decide)) ?_
  rintro _ _ ⟨a_11, rfl, rfl⟩
  refine JL.op rfl (JO.call [1, 0] Tryz.call162 rfl (D_pickInt c_1 pa pc p qp_4 qs_5 a_11 5 ([0, 1, 2, 9, -1] : List Int) (by omega) (by omega) (by simp) (by simp)) rfl (fun w hw => ⟨hw.seeOut_ hs_pa (fun _ _ => List.not_mem_nil), hw.apart hs_pa (fun _ _ => List.not_mem_nil) (by simp)⟩)) ?_
  rintro _ _ ⟨_, ⟨qp_12, qs_13, n_15, fq_14, f_16, rfl, rfl⟩, rfl⟩
  have hbn_15 : -9223372036854775808 ≤ n_15 ∧ n_15 ≤ 9223372036854775807 := by have hx_ := f_16; simp only [List.mem_cons, List.not_mem_nil, or_false] at hx_; omega
  refine JL.pure rfl (PO.assign (v := .slice x_7.a0 m_8.s.length x_7.c0) rfl) ?_
  refine JL.pure rfl (PO.assign (v := .int .i64 n_15) rfl) ?_
  refine JL.nil ?_
  refine JQ.seq ?_
  refine JC.ret ?_
  refine JQ.perm (pick_perm [1] (A := [rC x_7.a0 x_7.c0 m_8.s]) (F := [cb c_1 pa pc p qp_12 qs_13, rS x_7.a1 x_7.c1 m_8.r, rS x_7.a2 x_7.c2 m_8.w]) rfl).symm ?_
  refine Done.two (.inl rfl) rfl (RV.tmp (v := .slice x_7.a0 m_8.s.length x_7.c0) rfl) (RV.tmp (v := .int .i64 n_15) rfl) (List.sublist_append_left [rC x_7.a0 x_7.c0 m_8.s] [cb c_1 pa pc p qp_12 qs_13, rS x_7.a1 x_7.c1 m_8.r, rS x_7.a2 x_7.c2 m_8.w]) ?_
  exact ⟨x_7.a0, x_7.c0, m_8.s, n_15, ⟨by have := k_9.1; omega, k_9.2.2.2⟩, (by first | omega | (simp only [List.length_append, List.length_cons, List.length_nil, List.length_take, List.length_drop]; omega)), rfl, rfl⟩

theorem D_dOutsGoOn (pa : Option Addr) (pc : Nat) (p : Str) (hp : p.length ≤ 1048576) :
    Ct Tryz.prog 114 [.slice pa p.length pc] [] (fun w => Sees w (.slice pa p.length pc) 1 p.length (p.map encB)) (fun v A' => (∃ (a : Option Addr) (c : Nat) (l : List Str) (a' : Option Addr) (c' : Nat) (l' : List Str), l.length ≤ 41 ∧ l'.length ≤ 42 ∧ v = .tuple #[.slice a l.length c, .slice a' l'.length c'] ∧ A' = [rS a c l, rS a' c' l']) ∨ (∃ (a : Option Addr) (c : Nat) (l : List Str), l.length ≤ 41 ∧ v = .tuple #[.slice a l.length c, .slice a l.length c] ∧ A' = [rS a c l])) := by
  refine Ct.intro Tryz.func114 rfl Tryz.ntmps114 (Nat.le_of_ble_eq_true rfl) fun w0 hpre => ?_
  have hs_pa : Sees w0 _ _ _ _ := hpre
  refine JC.seq ?_
  refine JC.region ?_
  refine JL.pure rfl (PO.assign (v := .slice none 0 0) rfl) ?_
  refine JL.pure rfl (PO.assign (v := .slice none 0 0) rfl) ?_
  refine JL.nil ?_
  refine JQ.seq ?_
  refine JC.seq ?_
  refine JC.region ?_
  refine JL.pure rfl (PO.move (v := .slice pa p.length pc) rfl) ?_
  refine JL.op rfl (JO.call [] Tryz.call157 rfl (D_new pa pc p (by omega)) rfl (fun w hw => hw.seeOut_ hs_pa (fun _ _ => List.not_mem_nil))) ?_
  rintro _ _ ⟨_, ⟨c_1, qs_2, -, rfl, rfl⟩, rfl⟩
  refine JL.pure rfl (PO.assign (v := .pointer (some ⟨c_1, 0, none⟩)) rfl) ?_
  refine JL.nil ?_
  refine JQ.seq ?_
  refine JC.seq ?_
  refine JC.region ?_
  refine JL.pure rfl (PO.move (v := .pointer (some ⟨c_1, 0, none⟩)) rfl) ?_
  refine JL.op rfl (JO.call [0] Tryz.call210 rfl (D_mach12 c_1 pa pc p 0 qs_2 (by omega) (by omega)) rfl (fun w hw => ⟨hw.seeOut_ hs_pa (fun _ _ => List.not_mem_nil), hw.apart hs_pa (fun _ _ => List.not_mem_nil) (by simp)⟩)) ?_
  rintro _ _ ⟨_, ⟨qp_4, qs_5, x_7, m_8, fq_6, k_9, rfl, rfl⟩, rfl⟩
  refine JL.pure rfl (PO.field1 Tryz.underlying32 rfl rfl Tryz.isAgg29 rfl) ?_
  refine JL.op rfl (JO.call [] Tryz.call115 rfl (N_sOutsIn x_7.a0 x_7.c0 m_8.s (by have hl_ := k_9.1; omega) (fun key => k_9.getKey key)) rfl (fun w hw => hw.see (i := 1) rfl)) ?_
  rintro _ _ ⟨_, ⟨l_13a, l_13c, l_13, e_11, f_14, rfl, rfl⟩, rfl⟩
  refine JL.pure rfl (PO.assign (v := .slice l_13a l_13.length l_13c) rfl) ?_
  refine JL.nil ?_
  refine JQ.seq ?_
  refine JC.seq ?_
  refine JC.seq ?_
  refine JC.region ?_
  refine JL.pure rfl (PO.move (v := .pointer (some ⟨c_1, 0, none⟩)) rfl) ?_
  refine JL.op rfl (JO.call [1] Tryz.call173 rfl (D_below c_1 pa pc p qp_4 qs_5 (by omega) (by omega) 3 (by omega)) rfl (fun w hw => ⟨hw.seeOut_ hs_pa (fun _ _ => List.not_mem_nil), hw.apart hs_pa (fun _ _ => List.not_mem_nil) (by simp)⟩)) ?_
  rintro _ _ ⟨_, ⟨qp_15, qs_16, n_18, fq_17, f_19, rfl, rfl⟩, rfl⟩
  refine JL.nil ?_
  refine JQ.seq ?_
  refine JC.block ?_
  refine JC.seq ?_
  refine JC.region ?_
  refine JL.pure rfl (PO.eqlI rfl rfl) ?_
  refine JL.pure rfl (PO.assign (v := .bool (decide (((n_18 : Nat) : Int) = 0))) rfl) ?_
  refine JL.nil ?_
  refine JQ.seq ?_
  by_cases h_21 : ((n_18 : Nat) : Int) = 0
  · skip
    refine JC.condT (congrArg Value.bool (decide_eq_true h_21)) ?_
    refine JC.seq ?_
    refine JC.region ?_
    refine JL.pure rfl (PO.move (v := .slice l_13a l_13.length l_13c) rfl) ?_
    refine JL.op rfl (JO.buildSlice (ps := []) (cur := #[]) Tryz.underlying23 Tryz.sizeOf9 Tryz.zeroValue9 rfl (by kernel_rfl) (by decide) (by decide)) ?_
    rintro _ _ ⟨a_22, rfl, rfl⟩
    refine JL.pure rfl (PO.move (v := .slice l_13a l_13.length l_13c) rfl) ?_
    refine JL.op rfl (JO.append' 0 (q := l_13.length) (news := l_13.map str) (n' := l_13.length) (cs' := l_13.map str) rfl Tryz.underlying23 Tryz.underlying23 Tryz.typeInfo9 rfl (by' := 16) rfl rfl rfl rfl rfl (fun w hw => Src.sees (hw.see (i := 2) rfl) (oneS _)) (by (try simp only [List.length_append, List.length_cons, List.length_nil, List.length_take, List.length_drop]); omega) (by (try simp only [List.length_append, List.length_cons, List.length_nil, List.length_take, List.length_drop]); omega) (by (try simp only [List.length_take, List.length_drop]); first | rfl | omega) rfl) ?_
    rintro _ _ ⟨a_23, c_24, rfl, rfl⟩
    refine JL.op rfl (JO.buildSlice (ps := [(0, str [120])]) (cur := #[str [120]]) Tryz.underlying23 Tryz.sizeOf9 Tryz.zeroValue9 rfl (by kernel_rfl) (by decide) (by decide)) ?_
    rintro _ _ ⟨a_25, rfl, rfl⟩
    refine JL.op rfl (JO.append' 1 (q := 1) (news := ([[120]] : List Str).map str) (n' := (l_13 ++ ([[120]] : List Str)).length) (cs' := (l_13 ++ ([[120]] : List Str)).map str) rfl Tryz.underlying23 Tryz.underlying23 Tryz.typeInfo9 rfl (by' := 16) rfl rfl rfl rfl rfl (fun w hw => Src.sees (hw.see (i := 0) rfl) (oneS _)) (by (try simp only [List.length_append, List.length_cons, List.length_nil, List.length_take, List.length_drop]); omega) (by (try simp only [List.length_append, List.length_cons, List.length_nil, List.length_take, List.length_drop]); omega) (by simp only [List.length_append, List.length_take, List.length_drop, List.length_cons, List.length_nil] <;> first | rfl | omega) (by simp only [List.map_append])) ?_
    rintro _ _ ⟨a_26, c_27, rfl, rfl⟩
    refine JL.pure rfl (PO.assign (v := .slice l_13a l_13.length l_13c) rfl) ?_
    refine JL.pure rfl (PO.assign (v := .slice a_26 ((l_13 ++ ([[120]] : List Str)).length) c_27) rfl) ?_
    refine JL.nil ?_
    refine JQ.seq ?_
    refine JC.ret ?_
    refine JQ.blockRet ?_
    refine JQ.thenRet ?_
    refine JQ.perm (pick_perm [3, 1] (A := [rS l_13a l_13c l_13, rS a_26 c_27 (l_13 ++ ([[120]] : List Str))]) (F := [Res.row (.slice a_25 1 1) 9 1 1 (([[120]] : List Str).map str), cb c_1 pa pc p qp_15 qs_16, rC x_7.a0 x_7.c0 m_8.s, rS x_7.a1 x_7.c1 m_8.r, rS x_7.a2 x_7.c2 m_8.w]) rfl).symm ?_
    refine Done.two (.inl rfl) rfl (RV.tmp (v := .slice l_13a l_13.length l_13c) rfl) (RV.tmp (v := .slice a_26 ((l_13 ++ ([[120]] : List Str)).length) c_27) rfl) (List.sublist_append_left [rS l_13a l_13c l_13, rS a_26 c_27 (l_13 ++ ([[120]] : List Str))] [Res.row (.slice a_25 1 1) 9 1 1 (([[120]] : List Str).map str), cb c_1 pa pc p qp_15 qs_16, rC x_7.a0 x_7.c0 m_8.s, rS x_7.a1 x_7.c1 m_8.r, rS x_7.a2 x_7.c2 m_8.w]) ?_
    exact .inl ⟨l_13a, l_13c, l_13, a_26, c_27, (l_13 ++ ([[120]] : List Str)), (by first | omega | (simp only [List.length_append, List.length_cons, List.length_nil]; omega)), (by first | omega | (simp only [List.length_append, List.length_cons, List.length_nil]; omega)), rfl, rfl⟩
  · skip
    refine JC.condF (congrArg Value.bool (decide_eq_false h_21)) ?_
    refine JC.seq ?_
    refine JC.region ?_
    refine JL.pure rfl (PO.eqlI rfl rfl) ?_
    refine JL.pure rfl (PO.assign (v := .bool (decide (((n_18 : Nat) : Int) = 1))) rfl) ?_
    refine JL.nil ?_
    refine JQ.seq ?_
    by_cases h_28 : ((n_18 : Nat) : Int) = 1
    · skip
      refine JC.condT (congrArg Value.bool (decide_eq_true h_28)) ?_
      refine JC.seq ?_
      refine JC.region ?_
      refine JL.pure rfl (PO.move (v := .slice l_13a l_13.length l_13c) rfl) ?_
      refine JL.pure rfl (PO.move (v := .slice l_13a l_13.length l_13c) rfl) ?_
      refine JL.pure rfl (PO.assign (v := .slice l_13a l_13.length l_13c) rfl) ?_
      refine JL.pure rfl (PO.assign (v := .slice l_13a l_13.length l_13c) rfl) ?_
      refine JL.nil ?_
      refine JQ.seq ?_
      refine JC.ret ?_
      refine JQ.blockRet ?_
      refine JQ.thenRet ?_
      refine JQ.perm (pick_perm [1] (A := [rS l_13a l_13c l_13]) (F := [cb c_1 pa pc p qp_15 qs_16, rC x_7.a0 x_7.c0 m_8.s, rS x_7.a1 x_7.c1 m_8.r, rS x_7.a2 x_7.c2 m_8.w]) rfl).symm ?_
      refine Done.two (.inl rfl) rfl (RV.tmp (v := .slice l_13a l_13.length l_13c) rfl) (RV.tmp (v := .slice l_13a l_13.length l_13c) rfl) (List.sublist_append_left [rS l_13a l_13c l_13] [cb c_1 pa pc p qp_15 qs_16, rC x_7.a0 x_7.c0 m_8.s, rS x_7.a1 x_7.c1 m_8.r, rS x_7.a2 x_7.c2 m_8.w]) ?_
      exact .inr ⟨l_13a, l_13c, l_13, (by first | omega | (simp only [List.length_append, List.length_cons, List.length_nil]; omega)), rfl, rfl⟩
    · skip
      refine JC.condF (congrArg Value.bool (decide_eq_false h_28)) ?_
      refine JC.skip ?_
      refine JQ.blockN ?_
      refine JQ.seq ?_
      refine JC.seq ?_
      refine JC.region ?_
      refine JL.pure rfl (PO.move (v := .slice l_13a l_13.length l_13c) rfl) ?_
      refine JL.pure rfl (PO.move (v := .pointer (some ⟨c_1, 0, none⟩)) rfl) ?_
      refine JL.op rfl (JO.call [0] Tryz.call210 rfl (D_mach12 c_1 pa pc p qp_15 qs_16 (by omega) (by omega)) rfl (fun w hw => ⟨hw.seeOut_ hs_pa (fun _ _ => List.not_mem_nil), hw.apart hs_pa (fun _ _ => List.not_mem_nil) (by simp)⟩)) ?_
      rintro _ _ ⟨_, ⟨qp_29, qs_30, x_32, m_33, fq_31, k_34, rfl, rfl⟩, rfl⟩
      refine JL.pure rfl (PO.field1 Tryz.underlying32 rfl rfl Tryz.isAgg29 rfl) ?_
      refine JL.op rfl (JO.call [] Tryz.call115 rfl (N_sOutsIn x_32.a0 x_32.c0 m_33.s (by have hl_ := k_34.1; omega) (fun key => k_34.getKey key)) rfl (fun w hw => hw.see (i := 1) rfl)) ?_
      rintro _ _ ⟨_, ⟨l_38a, l_38c, l_38, e_36, f_39, rfl, rfl⟩, rfl⟩
      refine JL.pure rfl (PO.assign (v := .slice l_13a l_13.length l_13c) rfl) ?_
      refine JL.pure rfl (PO.assign (v := .slice l_38a l_38.length l_38c) rfl) ?_
      refine JL.nil ?_
      refine JQ.seq ?_
      refine JC.ret ?_
      refine JQ.perm (pick_perm [5, 0] (A := [rS l_13a l_13c l_13, rS l_38a l_38c l_38]) (F := [cb c_1 pa pc p qp_29 qs_30, rC x_32.a0 x_32.c0 m_33.s, rS x_32.a1 x_32.c1 m_33.r, rS x_32.a2 x_32.c2 m_33.w, rC x_7.a0 x_7.c0 m_8.s, rS x_7.a1 x_7.c1 m_8.r, rS x_7.a2 x_7.c2 m_8.w]) rfl).symm ?_
      refine Done.two (.inl rfl) rfl (RV.tmp (v := .slice l_13a l_13.length l_13c) rfl) (RV.tmp (v := .slice l_38a l_38.length l_38c) rfl) (List.sublist_append_left [rS l_13a l_13c l_13, rS l_38a l_38c l_38] [cb c_1 pa pc p qp_29 qs_30, rC x_32.a0 x_32.c0 m_33.s, rS x_32.a1 x_32.c1 m_33.r, rS x_32.a2 x_32.c2 m_33.w, rC x_7.a0 x_7.c0 m_8.s, rS x_7.a1 x_7.c1 m_8.r, rS x_7.a2 x_7.c2 m_8.w]) ?_
      exact .inl ⟨l_13a, l_13c, l_13, l_38a, l_38c, l_38, (by first | omega | (simp only [List.length_append, List.length_cons, List.length_nil]; omega)), (by first | omega | (simp only [List.length_append, List.length_cons, List.length_nil]; omega)), rfl, rfl⟩

end Go.Proofs.YtenfajgpdhgknaaGreatDoor
