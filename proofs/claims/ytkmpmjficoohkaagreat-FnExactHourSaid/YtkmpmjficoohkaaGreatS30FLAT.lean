/-
  The laws' own helpers on lists of calls, answers, steps (part 30).
-/
import Derived.Test.YtkmpmjficoohkaaGreatS28HARN
import Derived.Test.YtkmpmjficoohkaaGreatFlat
set_option linter.unusedSimpArgs false
set_option linter.unusedVariables false
set_option linter.unnecessarySimpa false
namespace Go.Proofs.YtkmpmjficoohkaaGreat
open Go Go.RowKit
theorem flatK (m : Nat) : (List.replicate m [Value.int .i64 0, str [], str [], .int .i64 0, .int .i64 0, str []]).flatten = (List.replicate m k0).flatMap encK := flat_make (enc := encK) k0 m
theorem flatA (m : Nat) : (List.replicate m [Value.int .i64 0, .int .i64 0, str []]).flatten = (List.replicate m a0_).flatMap encA := flat_make (enc := encA) a0_ m
theorem flatP (m : Nat) : (List.replicate m [Value.int .i64 0, .int .i64 0, str [], str [], .int .i64 0, .int .i64 0, str []]).flatten = (List.replicate m p0_).flatMap encP := flat_make (enc := encP) p0_ m
attribute [local irreducible] JL JC JQ JO LO PO JA JX Ct

theorem C_szAnswer (a : AN) (l : Int) (h0 : 0 ≤ l) (h1 : l ≤ 1048576) (ha : a.text.length ≤ 9223372036854775807) :
    Ct Tryz.prog 111 [.agg #[.int .i64 a.code, .int .i64 a.n, str a.text], .int .i64 l] [] (fun _ => True) (fun r A' => r = .int .i64 (szAnsF a l) ∧ A' = []) := by
  refine Ct.intro Tryz.func111 rfl Tryz.ntmps111 (Nat.le_of_ble_eq_true rfl) fun w0 hpre => ?_
  refine JC.seq ?_
  refine JC.region ?_
  refine JL.op rfl (JO.box (cs := [.int .i64 a.code, .int .i64 a.n, str a.text]) rfl rfl) ?_
  rintro _ _ ⟨b_1, rfl, rfl⟩
  refine JL.pure rfl (PO.assign (v := .int .i64 0) rfl) ?_
  refine JL.nil ?_
  refine JQ.seq ?_
  refine JC.seq ?_
  refine JC.region ?_
  refine JL.pure rfl (PO.move (v := .int .i64 l) rfl) ?_
  refine JL.pure rfl (PO.fieldAddr fo151_2 rfl) ?_
  refine JL.ld rfl (LO.load1 0 (v := str a.text) rfl rfl Tryz.isAgg9 rfl) ?_
  refine JL.pure rfl (PO.lenS Tryz.underlying9 rfl) ?_
  refine JL.pure rfl (PO.sub (c := l - (a.text.length : Int)) rfl rfl (wr (by omega))) ?_
  refine JL.pure rfl (PO.assign (v := .int .i64 (l - (a.text.length : Int))) rfl) ?_
  refine JL.nil ?_
  refine JQ.seq ?_
  refine JC.seq ?_
  refine JC.seq ?_
  refine JC.region ?_
  refine JL.pure rfl (PO.move (v := .int .i64 (l - (a.text.length : Int))) rfl) ?_
  refine JL.pure rfl (PO.lss rfl rfl) ?_
  refine JL.nil ?_
  refine JQ.seq ?_
  by_cases h_2 : (l - (a.text.length : Int)) < 0
  · skip
    refine JC.condT (congrArg Value.bool (decide_eq_true h_2)) ?_
    refine JC.seq ?_
    refine JC.region ?_
    refine JL.pure rfl (PO.assign (v := .int .i64 (-1)) rfl) ?_
    refine JL.nil ?_
    refine JQ.seq ?_
    refine JC.ret ?_
    refine JQ.thenRet ?_
    refine Done.one (.inl rfl) rfl (RV.tmp (v := .int .i64 (-1)) rfl) (List.nil_sublist _) ?_
    refine ⟨congrArg (Value.int .i64) ?_, rfl⟩
    unfold szAnsF
    first | rw [if_pos (by omega)] | rw [if_neg (by omega)]
  · skip
    refine JC.condF (congrArg Value.bool (decide_eq_false h_2)) ?_
    refine JC.skip ?_
    refine JQ.seq ?_
    refine JC.seq ?_
    refine JC.region ?_
    refine JL.pure rfl (PO.move (v := .int .i64 (l - (a.text.length : Int))) rfl) ?_
    refine JL.pure rfl (PO.assign (v := .int .i64 (l - (a.text.length : Int))) rfl) ?_
    refine JL.nil ?_
    refine JQ.seq ?_
    refine JC.ret ?_
    refine Done.one (.inl rfl) rfl (RV.tmp (v := .int .i64 (l - (a.text.length : Int))) rfl) (List.nil_sublist _) ?_
    refine ⟨congrArg (Value.int .i64) ?_, rfl⟩
    unfold szAnsF
    first | rw [if_pos (by omega)] | rw [if_neg (by omega)]

theorem C_szStep (p : SP) (l : Int) (h0 : 0 ≤ l) (h1 : l ≤ 1048576) (hp : p.call.ok 9223372036854775807) :
    Ct Tryz.prog 152 [.agg #[.int .i64 p.proc, .int .i64 p.call.kind, str p.call.name, str p.call.to_, .int .i64 p.call.a, .int .i64 p.call.b, str p.call.text], .int .i64 l] [] (fun _ => True) (fun r A' => r = .int .i64 (szStepF p l) ∧ A' = []) := by
  refine Ct.intro Tryz.func152 rfl Tryz.ntmps152 (Nat.le_of_ble_eq_true rfl) fun w0 hpre => ?_
  refine JC.seq ?_
  refine JC.region ?_
  refine JL.op rfl (JO.box (cs := [.int .i64 p.proc, .int .i64 p.call.kind, str p.call.name, str p.call.to_, .int .i64 p.call.a, .int .i64 p.call.b, str p.call.text]) rfl rfl) ?_
  rintro _ _ ⟨b_1, rfl, rfl⟩
  refine JL.pure rfl (PO.assign (v := .int .i64 0) rfl) ?_
  refine JL.nil ?_
  refine JQ.seq ?_
  refine JC.seq ?_
  refine JC.region ?_
  refine JL.pure rfl (PO.fieldAddr fo188_1 rfl) ?_
  refine JL.ld rfl (LO.loadK 0 (vs := [.int .i64 p.call.kind, str p.call.name, str p.call.to_, .int .i64 p.call.a, .int .i64 p.call.b, str p.call.text]) rfl rfl Tryz.isAgg148 Tryz.sizeOf148 rfl rfl) ?_
  refine JL.pure rfl (PO.move (v := .int .i64 l) rfl) ?_
  refine JL.op rfl (JO.call [] Tryz.call110 rfl (N_szCall p.call l hp (by omega) (by omega)) rfl (fun _ _ => trivial)) ?_
  rintro _ _ ⟨_, ⟨_, rfl, rfl, rfl⟩, rfl⟩
  refine JL.pure rfl (PO.assign (v := .int .i64 (szCallF p.call l)) rfl) ?_
  refine JL.nil ?_
  refine JQ.seq ?_
  refine JC.seq ?_
  refine JC.seq ?_
  refine JC.region ?_
  refine JL.pure rfl (PO.move (v := .int .i64 (szCallF p.call l)) rfl) ?_
  refine JL.pure rfl (PO.lss rfl rfl) ?_
  refine JL.nil ?_
  refine JQ.seq ?_
  by_cases h_2 : (szCallF p.call l) < 0
  · skip
    refine JC.condT (congrArg Value.bool (decide_eq_true h_2)) ?_
    refine JC.seq ?_
    refine JC.region ?_
    refine JL.pure rfl (PO.assign (v := .int .i64 (-1)) rfl) ?_
    refine JL.nil ?_
    refine JQ.seq ?_
    refine JC.ret ?_
    refine JQ.thenRet ?_
    refine Done.one (.inl rfl) rfl (RV.tmp (v := .int .i64 (-1)) rfl) (List.nil_sublist _) ?_
    refine ⟨congrArg (Value.int .i64) ?_, rfl⟩
    unfold szStepF
    first | rw [if_pos (by omega)] | rw [if_neg (by omega)]
  · skip
    refine JC.condF (congrArg Value.bool (decide_eq_false h_2)) ?_
    refine JC.skip ?_
    refine JQ.seq ?_
    refine JC.seq ?_
    refine JC.region ?_
    refine JL.pure rfl (PO.move (v := .int .i64 (szCallF p.call l)) rfl) ?_
    refine JL.pure rfl (PO.assign (v := .int .i64 (szCallF p.call l)) rfl) ?_
    refine JL.nil ?_
    refine JQ.seq ?_
    refine JC.ret ?_
    refine Done.one (.inl rfl) rfl (RV.tmp (v := .int .i64 (szCallF p.call l)) rfl) (List.nil_sublist _) ?_
    refine ⟨congrArg (Value.int .i64) ?_, rfl⟩
    unfold szStepF
    first | rw [if_pos (by omega)] | rw [if_neg (by omega)]

theorem C_eqCall (a b : CL) :
    Ct Tryz.prog 120 [.agg #[.int .i64 a.kind, str a.name, str a.to_, .int .i64 a.a, .int .i64 a.b, str a.text], .agg #[.int .i64 b.kind, str b.name, str b.to_, .int .i64 b.a, .int .i64 b.b, str b.text]] [] (fun _ => True) (fun v A' => v = .bool (decide (a = b)) ∧ A' = []) := by
  refine Ct.intro Tryz.func120 rfl Tryz.ntmps120 (Nat.le_of_ble_eq_true rfl) fun w0 hpre => ?_
  refine JC.seq ?_
  refine JC.region ?_
  refine JL.op rfl (JO.box (cs := [.int .i64 a.kind, str a.name, str a.to_, .int .i64 a.a, .int .i64 a.b, str a.text]) rfl rfl) ?_
  rintro _ _ ⟨b_1, rfl, rfl⟩
  refine JL.op rfl (JO.box (cs := [.int .i64 b.kind, str b.name, str b.to_, .int .i64 b.a, .int .i64 b.b, str b.text]) rfl rfl) ?_
  rintro _ _ ⟨b_2, rfl, rfl⟩
  refine JL.pure rfl (PO.assign (v := .bool false) rfl) ?_
  refine JL.nil ?_
  refine JQ.seq ?_
  refine JC.seq ?_
  refine JC.seq ?_
  refine JC.region ?_
  refine JL.pure rfl (PO.fieldAddr fo152_0 rfl) ?_
  refine JL.ld rfl (LO.load1 1 (v := .int .i64 a.kind) rfl rfl Tryz.isAgg3 rfl) ?_
  refine JL.pure rfl (PO.fieldAddr fo152_0 rfl) ?_
  refine JL.ld rfl (LO.load1 0 (v := .int .i64 b.kind) rfl rfl Tryz.isAgg3 rfl) ?_
  refine JL.pure rfl (PO.neqI rfl rfl) ?_
  refine JL.nil ?_
  refine JQ.seq ?_
  by_cases h_3 : a.kind = b.kind
  · skip
    refine JC.condF (congrArg Value.bool (congrArg Bool.not (decide_eq_true h_3))) ?_
    refine JC.skip ?_
    refine JQ.seq ?_
    refine JC.seq ?_
    refine JC.seq ?_
    refine JC.region ?_
    refine JL.pure rfl (PO.fieldAddr fo152_1 rfl) ?_
    refine JL.ld rfl (LO.load1 1 (v := str a.name) rfl rfl Tryz.isAgg9 rfl) ?_
    refine JL.pure rfl (PO.fieldAddr fo152_1 rfl) ?_
    refine JL.ld rfl (LO.load1 0 (v := str b.name) rfl rfl Tryz.isAgg9 rfl) ?_
    refine JL.pure rfl (PO.neqS rfl rfl) ?_
    refine JL.nil ?_
    refine JQ.seq ?_
    by_cases h_4 : a.name = b.name
    · skip
      refine JC.condF (congrArg Value.bool (congrArg Bool.not (decide_eq_true h_4))) ?_
      refine JC.skip ?_
      refine JQ.seq ?_
      refine JC.seq ?_
      refine JC.seq ?_
      refine JC.region ?_
      refine JL.pure rfl (PO.fieldAddr fo152_2 rfl) ?_
      refine JL.ld rfl (LO.load1 1 (v := str a.to_) rfl rfl Tryz.isAgg9 rfl) ?_
      refine JL.pure rfl (PO.fieldAddr fo152_2 rfl) ?_
      refine JL.ld rfl (LO.load1 0 (v := str b.to_) rfl rfl Tryz.isAgg9 rfl) ?_
      refine JL.pure rfl (PO.neqS rfl rfl) ?_
      refine JL.nil ?_
      refine JQ.seq ?_
      by_cases h_5 : a.to_ = b.to_
      · skip
        refine JC.condF (congrArg Value.bool (congrArg Bool.not (decide_eq_true h_5))) ?_
        refine JC.skip ?_
        refine JQ.seq ?_
        refine JC.seq ?_
        refine JC.seq ?_
        refine JC.region ?_
        refine JL.pure rfl (PO.fieldAddr fo152_3 rfl) ?_
        refine JL.ld rfl (LO.load1 1 (v := .int .i64 a.a) rfl rfl Tryz.isAgg3 rfl) ?_
        refine JL.pure rfl (PO.fieldAddr fo152_3 rfl) ?_
        refine JL.ld rfl (LO.load1 0 (v := .int .i64 b.a) rfl rfl Tryz.isAgg3 rfl) ?_
        refine JL.pure rfl (PO.neqI rfl rfl) ?_
        refine JL.nil ?_
        refine JQ.seq ?_
        by_cases h_6 : a.a = b.a
        · skip
          refine JC.condF (congrArg Value.bool (congrArg Bool.not (decide_eq_true h_6))) ?_
          refine JC.skip ?_
          refine JQ.seq ?_
          refine JC.seq ?_
          refine JC.seq ?_
          refine JC.region ?_
          refine JL.pure rfl (PO.fieldAddr fo152_4 rfl) ?_
          refine JL.ld rfl (LO.load1 1 (v := .int .i64 a.b) rfl rfl Tryz.isAgg3 rfl) ?_
          refine JL.pure rfl (PO.fieldAddr fo152_4 rfl) ?_
          refine JL.ld rfl (LO.load1 0 (v := .int .i64 b.b) rfl rfl Tryz.isAgg3 rfl) ?_
          refine JL.pure rfl (PO.neqI rfl rfl) ?_
          refine JL.nil ?_
          refine JQ.seq ?_
          by_cases h_7 : a.b = b.b
          · skip
            refine JC.condF (congrArg Value.bool (congrArg Bool.not (decide_eq_true h_7))) ?_
            refine JC.skip ?_
            refine JQ.seq ?_
            refine JC.seq ?_
            refine JC.seq ?_
            refine JC.region ?_
            refine JL.pure rfl (PO.fieldAddr fo152_5 rfl) ?_
            refine JL.ld rfl (LO.load1 1 (v := str a.text) rfl rfl Tryz.isAgg9 rfl) ?_
            refine JL.pure rfl (PO.fieldAddr fo152_5 rfl) ?_
            refine JL.ld rfl (LO.load1 0 (v := str b.text) rfl rfl Tryz.isAgg9 rfl) ?_
            refine JL.pure rfl (PO.neqS rfl rfl) ?_
            refine JL.nil ?_
            refine JQ.seq ?_
            by_cases h_8 : a.text = b.text
            · skip
              refine JC.condF (congrArg Value.bool (congrArg Bool.not (decide_eq_true h_8))) ?_
              refine JC.skip ?_
              refine JQ.seq ?_
              refine JC.seq ?_
              refine JC.region ?_
              refine JL.pure rfl (PO.assign (v := .bool true) rfl) ?_
              refine JL.nil ?_
              refine JQ.seq ?_
              refine JC.ret ?_
              refine Done.one (.inl rfl) rfl (RV.tmp (v := .bool true) rfl) (List.nil_sublist _) ?_
              refine ⟨congrArg Value.bool ?_, rfl⟩
              exact (decide_eq_true (by cases a; cases b; simp_all)).symm
            · skip
              refine JC.condT (congrArg Value.bool (congrArg Bool.not (decide_eq_false h_8))) ?_
              refine JC.seq ?_
              refine JC.region ?_
              refine JL.pure rfl (PO.assign (v := .bool false) rfl) ?_
              refine JL.nil ?_
              refine JQ.seq ?_
              refine JC.ret ?_
              refine JQ.thenRet ?_
              refine Done.one (.inl rfl) rfl (RV.tmp (v := .bool false) rfl) (List.nil_sublist _) ?_
              refine ⟨congrArg Value.bool ?_, rfl⟩
              exact (decide_eq_false (fun h_ => by subst h_; simp_all)).symm
          · skip
            refine JC.condT (congrArg Value.bool (congrArg Bool.not (decide_eq_false h_7))) ?_
            refine JC.seq ?_
            refine JC.region ?_
            refine JL.pure rfl (PO.assign (v := .bool false) rfl) ?_
            refine JL.nil ?_
            refine JQ.seq ?_
            refine JC.ret ?_
            refine JQ.thenRet ?_
            refine Done.one (.inl rfl) rfl (RV.tmp (v := .bool false) rfl) (List.nil_sublist _) ?_
            refine ⟨congrArg Value.bool ?_, rfl⟩
            exact (decide_eq_false (fun h_ => by subst h_; simp_all)).symm
        · skip
          refine JC.condT (congrArg Value.bool (congrArg Bool.not (decide_eq_false h_6))) ?_
          refine JC.seq ?_
          refine JC.region ?_
          refine JL.pure rfl (PO.assign (v := .bool false) rfl) ?_
          refine JL.nil ?_
          refine JQ.seq ?_
          refine JC.ret ?_
          refine JQ.thenRet ?_
          refine Done.one (.inl rfl) rfl (RV.tmp (v := .bool false) rfl) (List.nil_sublist _) ?_
          refine ⟨congrArg Value.bool ?_, rfl⟩
          exact (decide_eq_false (fun h_ => by subst h_; simp_all)).symm
      · skip
        refine JC.condT (congrArg Value.bool (congrArg Bool.not (decide_eq_false h_5))) ?_
        refine JC.seq ?_
        refine JC.region ?_
        refine JL.pure rfl (PO.assign (v := .bool false) rfl) ?_
        refine JL.nil ?_
        refine JQ.seq ?_
        refine JC.ret ?_
        refine JQ.thenRet ?_
        refine Done.one (.inl rfl) rfl (RV.tmp (v := .bool false) rfl) (List.nil_sublist _) ?_
        refine ⟨congrArg Value.bool ?_, rfl⟩
        exact (decide_eq_false (fun h_ => by subst h_; simp_all)).symm
    · skip
      refine JC.condT (congrArg Value.bool (congrArg Bool.not (decide_eq_false h_4))) ?_
      refine JC.seq ?_
      refine JC.region ?_
      refine JL.pure rfl (PO.assign (v := .bool false) rfl) ?_
      refine JL.nil ?_
      refine JQ.seq ?_
      refine JC.ret ?_
      refine JQ.thenRet ?_
      refine Done.one (.inl rfl) rfl (RV.tmp (v := .bool false) rfl) (List.nil_sublist _) ?_
      refine ⟨congrArg Value.bool ?_, rfl⟩
      exact (decide_eq_false (fun h_ => by subst h_; simp_all)).symm
  · skip
    refine JC.condT (congrArg Value.bool (congrArg Bool.not (decide_eq_false h_3))) ?_
    refine JC.seq ?_
    refine JC.region ?_
    refine JL.pure rfl (PO.assign (v := .bool false) rfl) ?_
    refine JL.nil ?_
    refine JQ.seq ?_
    refine JC.ret ?_
    refine JQ.thenRet ?_
    refine Done.one (.inl rfl) rfl (RV.tmp (v := .bool false) rfl) (List.nil_sublist _) ?_
    refine ⟨congrArg Value.bool ?_, rfl⟩
    exact (decide_eq_false (fun h_ => by subst h_; simp_all)).symm

theorem C_eqCallS (a b : Option Addr) (c c' : Nat) (s t : List CL) (hn : s.length ≤ 9223372036854775807) :
    Ct Tryz.prog 66 [.slice a s.length c, .slice b t.length c'] [] (fun w => Sees w (.slice a s.length c) 6 s.length (s.flatMap encK) ∧ Sees w (.slice b t.length c') 6 t.length (t.flatMap encK)) (fun r A' => r = .bool (decide (s = t)) ∧ A' = []) := by
  refine Ct.intro Tryz.func66 rfl Tryz.ntmps66 (Nat.le_of_ble_eq_true rfl) fun w0 hpre => ?_
  have hs_a : Sees w0 _ _ _ _ := hpre.1
  have hs_b : Sees w0 _ _ _ _ := hpre.2
  refine JC.seq ?_
  refine JC.region ?_
  refine JL.pure rfl (PO.assign (v := .bool false) rfl) ?_
  refine JL.nil ?_
  refine JQ.seq ?_
  refine JC.seq ?_
  refine JC.seq ?_
  refine JC.region ?_
  refine JL.pure rfl (PO.move (v := .slice a s.length c) rfl) ?_
  refine JL.pure rfl (PO.lenV Tryz.underlying57 rfl) ?_
  refine JL.pure rfl (PO.move (v := .slice b t.length c') rfl) ?_
  refine JL.pure rfl (PO.lenV Tryz.underlying57 rfl) ?_
  refine JL.pure rfl (PO.neqI rfl rfl) ?_
  refine JL.nil ?_
  refine JQ.seq ?_
  by_cases h_1 : ((s.length : Nat) : Int) = ((t.length : Nat) : Int)
  · skip
    have hlen := h_1
    refine JC.condF (congrArg Value.bool (congrArg Bool.not (decide_eq_true h_1))) ?_
    refine JC.skip ?_
    refine JQ.seq ?_
    refine JC.seq ?_
    refine JC.seq ?_
    refine JC.region ?_
    refine JL.pure rfl (PO.assign (v := .int .i64 0) rfl) ?_
    refine JL.nil ?_
    refine JQ.seq ?_
    refine JC.block ?_
    refine JC.loop (fun k_ e_ L_ => ∃ j : Nat, (j ≤ s.length) ∧ (s.take j = t.take j) ∧ (s.length = t.length) ∧ e_ 0 = .slice a s.length c ∧ e_ 1 = .slice b t.length c' ∧ e_ 5 = .int .i64 ((j : Nat) : Int) ∧ L_ = [] ∧ k_ = s.length - j) _ ⟨0, by omega, rfl, by omega, rfl, rfl, rfl, rfl, rfl⟩ ?_
    rintro _ e_2 _ ⟨j, hj, hE, hln, he_3, he_4, he_5, rfl, rfl⟩
    refine JC.seq ?_
    refine JC.seq ?_
    refine JC.region ?_
    refine JL.pure rfl (PO.move (v := .int .i64 ((j : Nat) : Int)) he_5) ?_
    refine JL.pure rfl (PO.move (v := .slice a s.length c) he_3) ?_
    refine JL.pure rfl (PO.lenV Tryz.underlying57 rfl) ?_
    refine JL.pure rfl (PO.lss rfl rfl) ?_
    refine JL.nil ?_
    refine JQ.seq ?_
    by_cases h_6 : ((j : Nat) : Int) < ((s.length : Nat) : Int)
    · skip
      have hlt : j < s.length := by omega
      refine JC.condT (congrArg Value.bool (decide_eq_true h_6)) ?_
      refine JC.skip ?_
      refine JQ.seq ?_
      refine JC.seq ?_
      refine JC.block ?_
      refine JC.seq ?_
      refine JC.regionA [] 1000 mixed (by simp) ?_
      refine JA.takeP 0 rfl (by kernel_rfl) (NP.th (NP.bl (NP.th (NP.th (NP.bl (NP.th NP.body)))))) (by kernel_rfl) (by kernel_rfl) rfl (PO.move (v := .slice a s.length c) he_3) ?_
      refine JA.takeP 1 rfl (by kernel_rfl) (NP.th (NP.bl (NP.th (NP.th (NP.bl (NP.th NP.body)))))) (by kernel_rfl) (by kernel_rfl) rfl (PO.move (v := .int .i64 ((j : Nat) : Int)) he_5) ?_
      obtain ⟨hr_7, hr_7b, -⟩ := sees_some hs_a (by omega)
      refine JA.takeP 2 rfl (by kernel_rfl) (NP.th (NP.bl (NP.th (NP.th (NP.bl (NP.th NP.body)))))) (by kernel_rfl) (by kernel_rfl) rfl (PO.indexAddrV (i := j) Tryz.underlying57 Tryz.sizeOf152 hr_7 hr_7b rfl rfl (by omega)) ?_
      refine JA.take 3 rfl (by kernel_rfl) (NP.th (NP.bl (NP.th (NP.th (NP.bl (NP.th NP.body)))))) (by kernel_rfl) (by kernel_rfl) (by kernel_rfl) rfl (LO.loadSK (vs := [.int .i64 ((s.getD j k0).kind), str ((s.getD j k0).name), str ((s.getD j k0).to_), .int .i64 ((s.getD j k0).a), .int .i64 ((s.getD j k0).b), str ((s.getD j k0).text)]) hs_a (fun _ _ => List.not_mem_nil) rfl Tryz.isAgg152 Tryz.sizeOf152 (flat_take encK_len k0 s j (by omega)) rfl (by decide)) ?_
      refine JA.takeP 4 rfl (by kernel_rfl) (NP.th (NP.bl (NP.th (NP.th (NP.bl (NP.th NP.body)))))) (by kernel_rfl) (by kernel_rfl) rfl (PO.move (v := .slice b t.length c') he_4) ?_
      refine JA.takeP 5 rfl (by kernel_rfl) (NP.th (NP.bl (NP.th (NP.th (NP.bl (NP.th NP.body)))))) (by kernel_rfl) (by kernel_rfl) rfl (PO.move (v := .int .i64 ((j : Nat) : Int)) he_5) ?_
      obtain ⟨hr_8, hr_8b, -⟩ := sees_some hs_b (by omega)
      refine JA.takeP 6 rfl (by kernel_rfl) (NP.th (NP.bl (NP.th (NP.th (NP.bl (NP.th NP.body)))))) (by kernel_rfl) (by kernel_rfl) rfl (PO.indexAddrV (i := j) Tryz.underlying57 Tryz.sizeOf152 hr_8 hr_8b rfl rfl (by omega)) ?_
      refine JA.take 7 rfl (by kernel_rfl) (NP.th (NP.bl (NP.th (NP.th (NP.bl (NP.th NP.body)))))) (by kernel_rfl) (by kernel_rfl) (by kernel_rfl) rfl (LO.loadSK (vs := [.int .i64 ((t.getD j k0).kind), str ((t.getD j k0).name), str ((t.getD j k0).to_), .int .i64 ((t.getD j k0).a), .int .i64 ((t.getD j k0).b), str ((t.getD j k0).text)]) hs_b (fun _ _ => List.not_mem_nil) rfl Tryz.isAgg152 Tryz.sizeOf152 (flat_take encK_len k0 t j (by omega)) rfl (by decide)) ?_
      refine JA.one (i := 8) (by kernel_rfl) ?_
      refine JX.op rfl rfl (JO.call [] Tryz.call120 rfl (C_eqCall (s.getD j k0) (t.getD j k0)) rfl (fun _ _ => trivial)) ?_
      rintro _ _ ⟨_, ⟨rfl, rfl⟩, rfl⟩
      refine ⟨(fun _ h => by cases h), ?_⟩
      refine JA.takeP 9 rfl (by kernel_rfl) (NP.th (NP.bl (NP.th (NP.th (NP.bl (NP.th NP.body)))))) (by kernel_rfl) (by kernel_rfl) rfl (PO.not rfl) ?_
      refine JA.done (by kernel_rfl) ?_
      refine JQ.seq ?_
      by_cases h_9 : (s.getD j k0) = (t.getD j k0)
      · skip
        have heq := h_9
        refine JC.condF (congrArg Value.bool (congrArg Bool.not (decide_eq_true h_9))) ?_
        refine JC.skip ?_
        refine JQ.blockN ?_
        refine JQ.seq ?_
        refine JC.region ?_
        refine JL.pure rfl (PO.move (v := .int .i64 ((j : Nat) : Int)) he_5) ?_
        refine JL.pure rfl (PO.add (c := ((j + 1 : Nat) : Int)) rfl rfl (wr (by omega))) ?_
        refine JL.pure rfl (PO.assign (v := .int .i64 ((j + 1 : Nat) : Int)) rfl) ?_
        refine JL.nil ?_
        refine JQ.again (s.length - (j + 1)) (by omega) ⟨j + 1, by omega, take_succ_eq k0 hE hlt hln heq, hln, he_3, he_4, rfl, rfl, rfl⟩
      · skip
        have hne := h_9
        refine JC.condT (congrArg Value.bool (congrArg Bool.not (decide_eq_false h_9))) ?_
        refine JC.seq ?_
        refine JC.region ?_
        refine JL.pure rfl (PO.assign (v := .bool false) rfl) ?_
        refine JL.nil ?_
        refine JQ.seq ?_
        refine JC.ret ?_
        refine JQ.blockRet ?_
        refine JQ.thenRet ?_
        refine JQ.thenRet ?_
        refine JQ.blockRet ?_
        refine JQ.thenRet ?_
        refine Done.one (.inl rfl) rfl (RV.tmp (v := .bool false) rfl) (List.nil_sublist _) ?_
        refine ⟨?_, rfl⟩
        rw [decide_eq_false (fun h => hne (by rw [h]))]
    · skip
      refine JC.condF (congrArg Value.bool (decide_eq_false h_6)) ?_
      refine JC.exit ?_
      refine JQ.thenExit ?_
      refine JQ.thenExit ?_
      refine JQ.blockE ?_
      refine JQ.seq ?_
      refine JC.seq ?_
      refine JC.region ?_
      refine JL.pure rfl (PO.assign (v := .bool true) rfl) ?_
      refine JL.nil ?_
      refine JQ.seq ?_
      refine JC.ret ?_
      refine Done.one (.inl rfl) rfl (RV.tmp (v := .bool true) rfl) (List.nil_sublist _) ?_
      refine ⟨?_, rfl⟩
      rw [decide_eq_true (take_all_eq hE (by omega) (by omega))]
  · skip
    have hlen := h_1
    refine JC.condT (congrArg Value.bool (congrArg Bool.not (decide_eq_false h_1))) ?_
    refine JC.seq ?_
    refine JC.region ?_
    refine JL.pure rfl (PO.assign (v := .bool false) rfl) ?_
    refine JL.nil ?_
    refine JQ.seq ?_
    refine JC.ret ?_
    refine JQ.thenRet ?_
    refine Done.one (.inl rfl) rfl (RV.tmp (v := .bool false) rfl) (List.nil_sublist _) ?_
    refine ⟨?_, rfl⟩
    rw [decide_eq_false (fun h => by rw [h] at hlen; omega)]

theorem C_markCallS (a : Option Addr) (c : Nat) (l : List CL) (k : Nat) (h0 : 0 < k) (h1 : k + 6 * l.length ≤ 100000000) :
    Ct Tryz.prog 70 [.slice a l.length c, .int .i64 ((k : Nat) : Int)] [Res.row (.slice a l.length c) 152 6 l.length (l.flatMap encK)] (fun _ => True) (fun v A' => v = .int .i64 ((k + 6 * l.length : Nat) : Int) ∧ A' = [.row (.slice a l.length c) 152 6 l.length ((markG mkK 6 l k).flatMap encK)]) := by
  refine Ct.intro Tryz.func70 rfl Tryz.ntmps70 (Nat.le_of_ble_eq_true rfl) fun w0 hpre => ?_
  refine JC.seq ?_
  refine JC.region ?_
  refine JL.pure rfl (PO.assign (v := .int .i64 0) rfl) ?_
  refine JL.nil ?_
  refine JQ.seq ?_
  refine JC.seq ?_
  refine JC.seq ?_
  refine JC.region ?_
  refine JL.pure rfl (PO.assign (v := .int .i64 0) rfl) ?_
  refine JL.nil ?_
  refine JQ.seq ?_
  refine JC.block ?_
  refine JC.loop (fun k_ e_ L_ => ∃ j : Nat, (j ≤ l.length) ∧ e_ 0 = .slice a l.length c ∧ e_ 1 = .int .i64 ((k + 6 * j : Nat) : Int) ∧ e_ 4 = .int .i64 0 ∧ e_ 5 = .int .i64 ((j : Nat) : Int) ∧ L_ = [Res.row (.slice a l.length c) 152 6 l.length (((markG mkK 6 l k).take j ++ l.drop j).flatMap encK)] ∧ k_ = l.length - j) _ ⟨0, by omega, rfl, rfl, rfl, rfl, rfl, rfl⟩ ?_
  rintro _ e_1 _ ⟨j, hj, he_2, he_3, he_4, he_5, rfl, rfl⟩
  refine JC.seq ?_
  refine JC.seq ?_
  refine JC.region ?_
  refine JL.pure rfl (PO.move (v := .int .i64 ((j : Nat) : Int)) he_5) ?_
  refine JL.pure rfl (PO.move (v := .slice a l.length c) he_2) ?_
  refine JL.pure rfl (PO.lenV Tryz.underlying57 rfl) ?_
  refine JL.pure rfl (PO.lss rfl rfl) ?_
  refine JL.nil ?_
  refine JQ.seq ?_
  by_cases h_6 : ((j : Nat) : Int) < ((l.length : Nat) : Int)
  · skip
    have hlt : j < l.length := by omega
    refine JC.condT (congrArg Value.bool (decide_eq_true h_6)) ?_
    refine JC.skip ?_
    refine JQ.seq ?_
    refine JC.seq ?_
    refine JC.block ?_
    refine JC.seq ?_
    refine JC.region ?_
    refine JL.pure rfl (PO.move (v := .slice a l.length c) he_2) ?_
    refine JL.pure rfl (PO.move (v := .int .i64 ((j : Nat) : Int)) he_5) ?_
    refine JL.pure rfl (PO.move (v := .int .i64 ((k + 6 * j : Nat) : Int)) he_3) ?_
    refine JL.facts fun hst => ?_
    obtain ⟨hr_7, hr_7b, -⟩ := row_some 0 rfl (by omega) hst
    refine JL.pure rfl (PO.indexAddrV (i := j) Tryz.underlying57 Tryz.sizeOf152 hr_7 hr_7b rfl rfl (by omega)) ?_
    refine JL.pure rfl (PO.fieldAddrE fo152_0 hr_7 rfl) ?_
    refine JL.op rfl (JO.storeR 0 (vs := [.int .i64 ((k + 6 * j : Nat) : Int)]) (cs' := (((markG mkK 6 l k).take j ++ l.drop j).set j (⟨((k + 6 * j : Nat) : Int), (((markG mkK 6 l k).take j ++ l.drop j).getD j k0).name, (((markG mkK 6 l k).take j ++ l.drop j).getD j k0).to_, (((markG mkK 6 l k).take j ++ l.drop j).getD j k0).a, (((markG mkK 6 l k).take j ++ l.drop j).getD j k0).b, (((markG mkK 6 l k).take j ++ l.drop j).getD j k0).text⟩ : CL)).flatMap encK) rfl rfl rfl rfl Tryz.sizeOf3 rfl rfl (by decide) (by rw [flat_length encK_len]; (try rw [List.length_set]); rw [markG_lenj mkK 6 hj]; omega) (flat_set1 encK_len k0 (f := 0) (y := (⟨((k + 6 * j : Nat) : Int), (((markG mkK 6 l k).take j ++ l.drop j).getD j k0).name, (((markG mkK 6 l k).take j ++ l.drop j).getD j k0).to_, (((markG mkK 6 l k).take j ++ l.drop j).getD j k0).a, (((markG mkK 6 l k).take j ++ l.drop j).getD j k0).b, (((markG mkK 6 l k).take j ++ l.drop j).getD j k0).text⟩ : CL)) (by rw [markG_lenj mkK 6 hj]; omega) (by decide) rfl)) ?_
    rintro _ _ rfl
    refine JL.nil ?_
    refine JQ.seq ?_
    refine JC.seq ?_
    refine JC.region ?_
    refine JL.pure rfl (PO.move (v := .int .i64 ((k + 6 * j : Nat) : Int)) he_3) ?_
    refine JL.pure rfl (PO.add (c := (((k + 6 * j) + 1 : Nat) : Int)) rfl rfl (wr (by omega))) ?_
    refine JL.pure rfl (PO.assign (v := .int .i64 (((k + 6 * j) + 1 : Nat) : Int)) rfl) ?_
    refine JL.nil ?_
    refine JQ.seq ?_
    refine JC.seq ?_
    refine JC.region ?_
    refine JL.pure rfl (PO.move (v := .slice a l.length c) he_2) ?_
    refine JL.pure rfl (PO.move (v := .int .i64 ((j : Nat) : Int)) he_5) ?_
    refine JL.pure rfl (PO.move (v := .int .i64 (((k + 6 * j) + 1 : Nat) : Int)) rfl) ?_
    refine JL.op rfl (JO.call [] Tryz.call102 rfl (C_markText ((k + 6 * j) + 1) (by omega) (by omega)) rfl (fun _ _ => trivial)) ?_
    rintro _ _ ⟨_, ⟨rfl, rfl⟩, rfl⟩
    refine JL.pure rfl (PO.indexAddrV (i := j) Tryz.underlying57 Tryz.sizeOf152 hr_7 hr_7b rfl rfl (by omega)) ?_
    refine JL.pure rfl (PO.fieldAddrE fo152_1 hr_7 rfl) ?_
    refine JL.op rfl (JO.storeR 0 (vs := [str (mt ((k + 6 * j) + 1))]) (cs' := (((markG mkK 6 l k).take j ++ l.drop j).set j (⟨((k + 6 * j : Nat) : Int), mt ((k + 6 * j) + 1), (((markG mkK 6 l k).take j ++ l.drop j).getD j k0).to_, (((markG mkK 6 l k).take j ++ l.drop j).getD j k0).a, (((markG mkK 6 l k).take j ++ l.drop j).getD j k0).b, (((markG mkK 6 l k).take j ++ l.drop j).getD j k0).text⟩ : CL)).flatMap encK) rfl rfl rfl rfl Tryz.sizeOf9 rfl rfl (by decide) (by rw [flat_length encK_len]; (try rw [List.length_set]); rw [markG_lenj mkK 6 hj]; omega) (flat_set1s encK_len k0 (f := 1) (x := (⟨((k + 6 * j : Nat) : Int), (((markG mkK 6 l k).take j ++ l.drop j).getD j k0).name, (((markG mkK 6 l k).take j ++ l.drop j).getD j k0).to_, (((markG mkK 6 l k).take j ++ l.drop j).getD j k0).a, (((markG mkK 6 l k).take j ++ l.drop j).getD j k0).b, (((markG mkK 6 l k).take j ++ l.drop j).getD j k0).text⟩ : CL)) (y := (⟨((k + 6 * j : Nat) : Int), mt ((k + 6 * j) + 1), (((markG mkK 6 l k).take j ++ l.drop j).getD j k0).to_, (((markG mkK 6 l k).take j ++ l.drop j).getD j k0).a, (((markG mkK 6 l k).take j ++ l.drop j).getD j k0).b, (((markG mkK 6 l k).take j ++ l.drop j).getD j k0).text⟩ : CL)) (by rw [markG_lenj mkK 6 hj]; omega) (by decide) rfl)) ?_
    rintro _ _ rfl
    refine JL.nil ?_
    refine JQ.seq ?_
    refine JC.seq ?_
    refine JC.region ?_
    refine JL.pure rfl (PO.move (v := .int .i64 (((k + 6 * j) + 1 : Nat) : Int)) rfl) ?_
    refine JL.pure rfl (PO.add (c := ((((k + 6 * j) + 1) + 1 : Nat) : Int)) rfl rfl (wr (by omega))) ?_
    refine JL.pure rfl (PO.assign (v := .int .i64 ((((k + 6 * j) + 1) + 1 : Nat) : Int)) rfl) ?_
    refine JL.nil ?_
    refine JQ.seq ?_
    refine JC.seq ?_
    refine JC.region ?_
    refine JL.pure rfl (PO.move (v := .slice a l.length c) he_2) ?_
    refine JL.pure rfl (PO.move (v := .int .i64 ((j : Nat) : Int)) he_5) ?_
    refine JL.pure rfl (PO.move (v := .int .i64 ((((k + 6 * j) + 1) + 1 : Nat) : Int)) rfl) ?_
    refine JL.op rfl (JO.call [] Tryz.call102 rfl (C_markText (((k + 6 * j) + 1) + 1) (by omega) (by omega)) rfl (fun _ _ => trivial)) ?_
    rintro _ _ ⟨_, ⟨rfl, rfl⟩, rfl⟩
    refine JL.pure rfl (PO.indexAddrV (i := j) Tryz.underlying57 Tryz.sizeOf152 hr_7 hr_7b rfl rfl (by omega)) ?_
    refine JL.pure rfl (PO.fieldAddrE fo152_2 hr_7 rfl) ?_
    refine JL.op rfl (JO.storeR 0 (vs := [str (mt (((k + 6 * j) + 1) + 1))]) (cs' := (((markG mkK 6 l k).take j ++ l.drop j).set j (⟨((k + 6 * j : Nat) : Int), mt ((k + 6 * j) + 1), mt (((k + 6 * j) + 1) + 1), (((markG mkK 6 l k).take j ++ l.drop j).getD j k0).a, (((markG mkK 6 l k).take j ++ l.drop j).getD j k0).b, (((markG mkK 6 l k).take j ++ l.drop j).getD j k0).text⟩ : CL)).flatMap encK) rfl rfl rfl rfl Tryz.sizeOf9 rfl rfl (by decide) (by rw [flat_length encK_len]; (try rw [List.length_set]); rw [markG_lenj mkK 6 hj]; omega) (flat_set1s encK_len k0 (f := 2) (x := (⟨((k + 6 * j : Nat) : Int), mt ((k + 6 * j) + 1), (((markG mkK 6 l k).take j ++ l.drop j).getD j k0).to_, (((markG mkK 6 l k).take j ++ l.drop j).getD j k0).a, (((markG mkK 6 l k).take j ++ l.drop j).getD j k0).b, (((markG mkK 6 l k).take j ++ l.drop j).getD j k0).text⟩ : CL)) (y := (⟨((k + 6 * j : Nat) : Int), mt ((k + 6 * j) + 1), mt (((k + 6 * j) + 1) + 1), (((markG mkK 6 l k).take j ++ l.drop j).getD j k0).a, (((markG mkK 6 l k).take j ++ l.drop j).getD j k0).b, (((markG mkK 6 l k).take j ++ l.drop j).getD j k0).text⟩ : CL)) (by rw [markG_lenj mkK 6 hj]; omega) (by decide) rfl)) ?_
    rintro _ _ rfl
    refine JL.nil ?_
    refine JQ.seq ?_
    refine JC.seq ?_
    refine JC.region ?_
    refine JL.pure rfl (PO.move (v := .int .i64 ((((k + 6 * j) + 1) + 1 : Nat) : Int)) rfl) ?_
    refine JL.pure rfl (PO.add (c := (((((k + 6 * j) + 1) + 1) + 1 : Nat) : Int)) rfl rfl (wr (by omega))) ?_
    refine JL.pure rfl (PO.assign (v := .int .i64 (((((k + 6 * j) + 1) + 1) + 1 : Nat) : Int)) rfl) ?_
    refine JL.nil ?_
    refine JQ.seq ?_
    refine JC.seq ?_
    refine JC.region ?_
    refine JL.pure rfl (PO.move (v := .slice a l.length c) he_2) ?_
    refine JL.pure rfl (PO.move (v := .int .i64 ((j : Nat) : Int)) he_5) ?_
    refine JL.pure rfl (PO.move (v := .int .i64 (((((k + 6 * j) + 1) + 1) + 1 : Nat) : Int)) rfl) ?_
    refine JL.pure rfl (PO.indexAddrV (i := j) Tryz.underlying57 Tryz.sizeOf152 hr_7 hr_7b rfl rfl (by omega)) ?_
    refine JL.pure rfl (PO.fieldAddrE fo152_3 hr_7 rfl) ?_
    refine JL.op rfl (JO.storeR 0 (vs := [.int .i64 (((((k + 6 * j) + 1) + 1) + 1 : Nat) : Int)]) (cs' := (((markG mkK 6 l k).take j ++ l.drop j).set j (⟨((k + 6 * j : Nat) : Int), mt ((k + 6 * j) + 1), mt (((k + 6 * j) + 1) + 1), (((((k + 6 * j) + 1) + 1) + 1 : Nat) : Int), (((markG mkK 6 l k).take j ++ l.drop j).getD j k0).b, (((markG mkK 6 l k).take j ++ l.drop j).getD j k0).text⟩ : CL)).flatMap encK) rfl rfl rfl rfl Tryz.sizeOf3 rfl rfl (by decide) (by rw [flat_length encK_len]; (try rw [List.length_set]); rw [markG_lenj mkK 6 hj]; omega) (flat_set1s encK_len k0 (f := 3) (x := (⟨((k + 6 * j : Nat) : Int), mt ((k + 6 * j) + 1), mt (((k + 6 * j) + 1) + 1), (((markG mkK 6 l k).take j ++ l.drop j).getD j k0).a, (((markG mkK 6 l k).take j ++ l.drop j).getD j k0).b, (((markG mkK 6 l k).take j ++ l.drop j).getD j k0).text⟩ : CL)) (y := (⟨((k + 6 * j : Nat) : Int), mt ((k + 6 * j) + 1), mt (((k + 6 * j) + 1) + 1), (((((k + 6 * j) + 1) + 1) + 1 : Nat) : Int), (((markG mkK 6 l k).take j ++ l.drop j).getD j k0).b, (((markG mkK 6 l k).take j ++ l.drop j).getD j k0).text⟩ : CL)) (by rw [markG_lenj mkK 6 hj]; omega) (by decide) rfl)) ?_
    rintro _ _ rfl
    refine JL.nil ?_
    refine JQ.seq ?_
    refine JC.seq ?_
    refine JC.region ?_
    refine JL.pure rfl (PO.move (v := .int .i64 (((((k + 6 * j) + 1) + 1) + 1 : Nat) : Int)) rfl) ?_
    refine JL.pure rfl (PO.add (c := ((((((k + 6 * j) + 1) + 1) + 1) + 1 : Nat) : Int)) rfl rfl (wr (by omega))) ?_
    refine JL.pure rfl (PO.assign (v := .int .i64 ((((((k + 6 * j) + 1) + 1) + 1) + 1 : Nat) : Int)) rfl) ?_
    refine JL.nil ?_
    refine JQ.seq ?_
    refine JC.seq ?_
    refine JC.region ?_
    refine JL.pure rfl (PO.move (v := .slice a l.length c) he_2) ?_
    refine JL.pure rfl (PO.move (v := .int .i64 ((j : Nat) : Int)) he_5) ?_
    refine JL.pure rfl (PO.move (v := .int .i64 ((((((k + 6 * j) + 1) + 1) + 1) + 1 : Nat) : Int)) rfl) ?_
    refine JL.pure rfl (PO.indexAddrV (i := j) Tryz.underlying57 Tryz.sizeOf152 hr_7 hr_7b rfl rfl (by omega)) ?_
    refine JL.pure rfl (PO.fieldAddrE fo152_4 hr_7 rfl) ?_
    refine JL.op rfl (JO.storeR 0 (vs := [.int .i64 ((((((k + 6 * j) + 1) + 1) + 1) + 1 : Nat) : Int)]) (cs' := (((markG mkK 6 l k).take j ++ l.drop j).set j (⟨((k + 6 * j : Nat) : Int), mt ((k + 6 * j) + 1), mt (((k + 6 * j) + 1) + 1), (((((k + 6 * j) + 1) + 1) + 1 : Nat) : Int), ((((((k + 6 * j) + 1) + 1) + 1) + 1 : Nat) : Int), (((markG mkK 6 l k).take j ++ l.drop j).getD j k0).text⟩ : CL)).flatMap encK) rfl rfl rfl rfl Tryz.sizeOf3 rfl rfl (by decide) (by rw [flat_length encK_len]; (try rw [List.length_set]); rw [markG_lenj mkK 6 hj]; omega) (flat_set1s encK_len k0 (f := 4) (x := (⟨((k + 6 * j : Nat) : Int), mt ((k + 6 * j) + 1), mt (((k + 6 * j) + 1) + 1), (((((k + 6 * j) + 1) + 1) + 1 : Nat) : Int), (((markG mkK 6 l k).take j ++ l.drop j).getD j k0).b, (((markG mkK 6 l k).take j ++ l.drop j).getD j k0).text⟩ : CL)) (y := (⟨((k + 6 * j : Nat) : Int), mt ((k + 6 * j) + 1), mt (((k + 6 * j) + 1) + 1), (((((k + 6 * j) + 1) + 1) + 1 : Nat) : Int), ((((((k + 6 * j) + 1) + 1) + 1) + 1 : Nat) : Int), (((markG mkK 6 l k).take j ++ l.drop j).getD j k0).text⟩ : CL)) (by rw [markG_lenj mkK 6 hj]; omega) (by decide) rfl)) ?_
    rintro _ _ rfl
    refine JL.nil ?_
    refine JQ.seq ?_
    refine JC.seq ?_
    refine JC.region ?_
    refine JL.pure rfl (PO.move (v := .int .i64 ((((((k + 6 * j) + 1) + 1) + 1) + 1 : Nat) : Int)) rfl) ?_
    refine JL.pure rfl (PO.add (c := (((((((k + 6 * j) + 1) + 1) + 1) + 1) + 1 : Nat) : Int)) rfl rfl (wr (by omega))) ?_
    refine JL.pure rfl (PO.assign (v := .int .i64 (((((((k + 6 * j) + 1) + 1) + 1) + 1) + 1 : Nat) : Int)) rfl) ?_
    refine JL.nil ?_
    refine JQ.seq ?_
    refine JC.seq ?_
    refine JC.region ?_
    refine JL.pure rfl (PO.move (v := .slice a l.length c) he_2) ?_
    refine JL.pure rfl (PO.move (v := .int .i64 ((j : Nat) : Int)) he_5) ?_
    refine JL.pure rfl (PO.move (v := .int .i64 (((((((k + 6 * j) + 1) + 1) + 1) + 1) + 1 : Nat) : Int)) rfl) ?_
    refine JL.op rfl (JO.call [] Tryz.call102 rfl (C_markText ((((((k + 6 * j) + 1) + 1) + 1) + 1) + 1) (by omega) (by omega)) rfl (fun _ _ => trivial)) ?_
    rintro _ _ ⟨_, ⟨rfl, rfl⟩, rfl⟩
    refine JL.pure rfl (PO.indexAddrV (i := j) Tryz.underlying57 Tryz.sizeOf152 hr_7 hr_7b rfl rfl (by omega)) ?_
    refine JL.pure rfl (PO.fieldAddrE fo152_5 hr_7 rfl) ?_
    refine JL.op rfl (JO.storeR 0 (vs := [str (mt ((((((k + 6 * j) + 1) + 1) + 1) + 1) + 1))]) (cs' := (((markG mkK 6 l k).take j ++ l.drop j).set j (⟨((k + 6 * j : Nat) : Int), mt ((k + 6 * j) + 1), mt (((k + 6 * j) + 1) + 1), (((((k + 6 * j) + 1) + 1) + 1 : Nat) : Int), ((((((k + 6 * j) + 1) + 1) + 1) + 1 : Nat) : Int), mt ((((((k + 6 * j) + 1) + 1) + 1) + 1) + 1)⟩ : CL)).flatMap encK) rfl rfl rfl rfl Tryz.sizeOf9 rfl rfl (by decide) (by rw [flat_length encK_len]; (try rw [List.length_set]); rw [markG_lenj mkK 6 hj]; omega) (flat_set1s encK_len k0 (f := 5) (x := (⟨((k + 6 * j : Nat) : Int), mt ((k + 6 * j) + 1), mt (((k + 6 * j) + 1) + 1), (((((k + 6 * j) + 1) + 1) + 1 : Nat) : Int), ((((((k + 6 * j) + 1) + 1) + 1) + 1 : Nat) : Int), (((markG mkK 6 l k).take j ++ l.drop j).getD j k0).text⟩ : CL)) (y := (⟨((k + 6 * j : Nat) : Int), mt ((k + 6 * j) + 1), mt (((k + 6 * j) + 1) + 1), (((((k + 6 * j) + 1) + 1) + 1 : Nat) : Int), ((((((k + 6 * j) + 1) + 1) + 1) + 1 : Nat) : Int), mt ((((((k + 6 * j) + 1) + 1) + 1) + 1) + 1)⟩ : CL)) (by rw [markG_lenj mkK 6 hj]; omega) (by decide) rfl)) ?_
    rintro _ _ rfl
    refine JL.nil ?_
    refine JQ.seq ?_
    refine JC.region ?_
    refine JL.pure rfl (PO.move (v := .int .i64 (((((((k + 6 * j) + 1) + 1) + 1) + 1) + 1 : Nat) : Int)) rfl) ?_
    refine JL.pure rfl (PO.add (c := ((((((((k + 6 * j) + 1) + 1) + 1) + 1) + 1) + 1 : Nat) : Int)) rfl rfl (wr (by omega))) ?_
    refine JL.pure rfl (PO.assign (v := .int .i64 ((((((((k + 6 * j) + 1) + 1) + 1) + 1) + 1) + 1 : Nat) : Int)) rfl) ?_
    refine JL.nil ?_
    refine JQ.blockN ?_
    refine JQ.seq ?_
    refine JC.region ?_
    refine JL.pure rfl (PO.move (v := .int .i64 ((j : Nat) : Int)) he_5) ?_
    refine JL.pure rfl (PO.add (c := ((j + 1 : Nat) : Int)) rfl rfl (wr (by omega))) ?_
    refine JL.pure rfl (PO.assign (v := .int .i64 ((j + 1 : Nat) : Int)) rfl) ?_
    refine JL.nil ?_
    refine JQ.again (l.length - (j + 1)) (by omega) ⟨j + 1, by omega, he_2, rfl, he_4, rfl, (by rw [← markG_step mkK 6 hlt]; rfl), rfl⟩
  · skip
    refine JC.condF (congrArg Value.bool (decide_eq_false h_6)) ?_
    refine JC.exit ?_
    refine JQ.thenExit ?_
    refine JQ.thenExit ?_
    refine JQ.blockE ?_
    refine JQ.seq ?_
    refine JC.seq ?_
    refine JC.region ?_
    refine JL.pure rfl (PO.move (v := .int .i64 ((k + 6 * j : Nat) : Int)) he_3) ?_
    refine JL.pure rfl (PO.assign (v := .int .i64 ((k + 6 * j : Nat) : Int)) rfl) ?_
    refine JL.nil ?_
    refine JQ.seq ?_
    refine JC.ret ?_
    refine Done.one (.inl rfl) rfl (RV.tmp (v := .int .i64 ((k + 6 * j : Nat) : Int)) rfl) (List.Sublist.refl _) ?_
    exact ⟨by rw [show j = l.length by omega], by rw [show j = l.length by omega, List.drop_of_length_le (Nat.le_refl _), List.append_nil, List.take_of_length_le (by rw [markG_len]; exact Nat.le_refl _)]⟩

theorem C_heldCallS (a : Option Addr) (c : Nat) (l : List CL) (k : Nat) (h0 : 0 < k) (h1 : k + 6 * l.length ≤ 100000000) :
    Ct Tryz.prog 105 [.slice a l.length c, .int .i64 ((k : Nat) : Int)] [] (fun w => Sees w (.slice a l.length c) 6 l.length ((markG mkK 6 l k).flatMap encK)) (fun v A' => v = .int .i64 ((k + 6 * l.length : Nat) : Int) ∧ A' = []) := by
  refine Ct.intro Tryz.func105 rfl Tryz.ntmps105 (Nat.le_of_ble_eq_true rfl) fun w0 hpre => ?_
  have hs_a : Sees w0 _ _ _ _ := hpre
  refine JC.seq ?_
  refine JC.region ?_
  refine JL.pure rfl (PO.assign (v := .int .i64 0) rfl) ?_
  refine JL.nil ?_
  refine JQ.seq ?_
  refine JC.seq ?_
  refine JC.seq ?_
  refine JC.region ?_
  refine JL.pure rfl (PO.assign (v := .int .i64 0) rfl) ?_
  refine JL.nil ?_
  refine JQ.seq ?_
  refine JC.block ?_
  refine JC.loop (fun k_ e_ L_ => ∃ j : Nat, (j ≤ l.length) ∧ e_ 0 = .slice a l.length c ∧ e_ 1 = .int .i64 ((k + 6 * j : Nat) : Int) ∧ e_ 5 = .int .i64 ((j : Nat) : Int) ∧ L_ = [] ∧ k_ = l.length - j) _ ⟨0, by omega, rfl, rfl, rfl, rfl, rfl⟩ ?_
  rintro _ e_1 _ ⟨j, hj, he_2, he_3, he_4, rfl, rfl⟩
  refine JC.seq ?_
  refine JC.seq ?_
  refine JC.region ?_
  refine JL.pure rfl (PO.move (v := .int .i64 ((j : Nat) : Int)) he_4) ?_
  refine JL.pure rfl (PO.move (v := .slice a l.length c) he_2) ?_
  refine JL.pure rfl (PO.lenV Tryz.underlying57 rfl) ?_
  refine JL.pure rfl (PO.lss rfl rfl) ?_
  refine JL.nil ?_
  refine JQ.seq ?_
  by_cases h_5 : ((j : Nat) : Int) < ((l.length : Nat) : Int)
  · skip
    have hlt : j < l.length := by omega
    refine JC.condT (congrArg Value.bool (decide_eq_true h_5)) ?_
    refine JC.skip ?_
    refine JQ.seq ?_
    refine JC.seq ?_
    refine JC.block ?_
    refine JC.seq ?_
    refine JC.seq ?_
    refine JC.region ?_
    refine JL.pure rfl (PO.move (v := .slice a l.length c) he_2) ?_
    refine JL.pure rfl (PO.move (v := .int .i64 ((j : Nat) : Int)) he_4) ?_
    obtain ⟨hr_6, hr_6b, -⟩ := sees_some hs_a (by omega)
    refine JL.pure rfl (PO.indexAddrV (i := j) Tryz.underlying57 Tryz.sizeOf152 hr_6 hr_6b rfl rfl (by omega)) ?_
    refine JL.pure rfl (PO.fieldAddrE fo152_0 hr_6 rfl) ?_
    refine JL.ld rfl (LO.loadS1 (v := .int .i64 (((markG mkK 6 l k).getD j k0).kind)) hs_a (fun _ _ => List.not_mem_nil) rfl Tryz.isAgg3 (flat_at encK_len k0 (markG mkK 6 l k) j 0 (by rw [markG_len]; omega) (by decide))) ?_
    refine JL.pure rfl (PO.move (v := .int .i64 ((k + 6 * j : Nat) : Int)) he_3) ?_
    refine JL.pure rfl (PO.neqI rfl rfl) ?_
    refine JL.nil ?_
    refine JQ.seq ?_
    by_cases h_7 : (((markG mkK 6 l k).getD j k0).kind) = ((k + 6 * j : Nat) : Int)
    · skip
      refine JC.condF (congrArg Value.bool (congrArg Bool.not (decide_eq_true h_7))) ?_
      refine JC.skip ?_
      refine JQ.seq ?_
      refine JC.seq ?_
      refine JC.region ?_
      refine JL.pure rfl (PO.move (v := .int .i64 ((k + 6 * j : Nat) : Int)) he_3) ?_
      refine JL.pure rfl (PO.add (c := (((k + 6 * j) + 1 : Nat) : Int)) rfl rfl (wr (by omega))) ?_
      refine JL.pure rfl (PO.assign (v := .int .i64 (((k + 6 * j) + 1 : Nat) : Int)) rfl) ?_
      refine JL.nil ?_
      refine JQ.seq ?_
      refine JC.seq ?_
      refine JC.seq ?_
      refine JC.regionA [] 7 mixed (by simp) ?_
      refine JA.takeP 0 rfl (by kernel_rfl) (NP.th (NP.th (NP.bl (NP.th (NP.th (NP.bl (NP.th NP.body))))))) (by kernel_rfl) (by kernel_rfl) rfl (PO.move (v := .slice a l.length c) he_2) ?_
      refine JA.takeP 1 rfl (by kernel_rfl) (NP.th (NP.th (NP.bl (NP.th (NP.th (NP.bl (NP.th NP.body))))))) (by kernel_rfl) (by kernel_rfl) rfl (PO.move (v := .int .i64 ((j : Nat) : Int)) he_4) ?_
      refine JA.takeP 2 rfl (by kernel_rfl) (NP.th (NP.th (NP.bl (NP.th (NP.th (NP.bl (NP.th NP.body))))))) (by kernel_rfl) (by kernel_rfl) rfl (PO.indexAddrV (i := j) Tryz.underlying57 Tryz.sizeOf152 hr_6 hr_6b rfl rfl (by omega)) ?_
      refine JA.takeP 3 rfl (by kernel_rfl) (NP.th (NP.th (NP.bl (NP.th (NP.th (NP.bl (NP.th NP.body))))))) (by kernel_rfl) (by kernel_rfl) rfl (PO.fieldAddrE fo152_1 hr_6 rfl) ?_
      refine JA.take 4 rfl (by kernel_rfl) (NP.th (NP.th (NP.bl (NP.th (NP.th (NP.bl (NP.th NP.body))))))) (by kernel_rfl) (by kernel_rfl) (by kernel_rfl) rfl (LO.loadS1 (v := str (((markG mkK 6 l k).getD j k0).name)) hs_a (fun _ _ => List.not_mem_nil) rfl Tryz.isAgg9 (flat_at encK_len k0 (markG mkK 6 l k) j 1 (by rw [markG_len]; omega) (by decide))) ?_
      refine JA.takeP 5 rfl (by kernel_rfl) (NP.th (NP.th (NP.bl (NP.th (NP.th (NP.bl (NP.th NP.body))))))) (by kernel_rfl) (by kernel_rfl) rfl (PO.move (v := .int .i64 (((k + 6 * j) + 1 : Nat) : Int)) rfl) ?_
      refine JA.one (i := 6) (by kernel_rfl) ?_
      refine JX.op rfl rfl (JO.call [] Tryz.call102 rfl (C_markText ((k + 6 * j) + 1) (by omega) (by omega)) rfl (fun _ _ => trivial)) ?_
      rintro _ _ ⟨_, ⟨rfl, rfl⟩, rfl⟩
      refine ⟨(fun _ h => by cases h), ?_⟩
      refine JA.takeP 7 rfl (by kernel_rfl) (NP.th (NP.th (NP.bl (NP.th (NP.th (NP.bl (NP.th NP.body))))))) (by kernel_rfl) (by kernel_rfl) rfl (PO.neqS rfl rfl) ?_
      refine JA.done (by kernel_rfl) ?_
      refine JQ.seq ?_
      by_cases h_8 : (((markG mkK 6 l k).getD j k0).name) = (mt ((k + 6 * j) + 1))
      · skip
        refine JC.condF (congrArg Value.bool (congrArg Bool.not (decide_eq_true h_8))) ?_
        refine JC.skip ?_
        refine JQ.seq ?_
        refine JC.seq ?_
        refine JC.region ?_
        refine JL.pure rfl (PO.move (v := .int .i64 (((k + 6 * j) + 1 : Nat) : Int)) rfl) ?_
        refine JL.pure rfl (PO.add (c := ((((k + 6 * j) + 1) + 1 : Nat) : Int)) rfl rfl (wr (by omega))) ?_
        refine JL.pure rfl (PO.assign (v := .int .i64 ((((k + 6 * j) + 1) + 1 : Nat) : Int)) rfl) ?_
        refine JL.nil ?_
        refine JQ.seq ?_
        refine JC.seq ?_
        refine JC.seq ?_
        refine JC.regionA [] 7 mixed (by simp) ?_
        refine JA.takeP 0 rfl (by kernel_rfl) (NP.th (NP.th (NP.bl (NP.th (NP.th (NP.bl (NP.th NP.body))))))) (by kernel_rfl) (by kernel_rfl) rfl (PO.move (v := .slice a l.length c) he_2) ?_
        refine JA.takeP 1 rfl (by kernel_rfl) (NP.th (NP.th (NP.bl (NP.th (NP.th (NP.bl (NP.th NP.body))))))) (by kernel_rfl) (by kernel_rfl) rfl (PO.move (v := .int .i64 ((j : Nat) : Int)) he_4) ?_
        refine JA.takeP 2 rfl (by kernel_rfl) (NP.th (NP.th (NP.bl (NP.th (NP.th (NP.bl (NP.th NP.body))))))) (by kernel_rfl) (by kernel_rfl) rfl (PO.indexAddrV (i := j) Tryz.underlying57 Tryz.sizeOf152 hr_6 hr_6b rfl rfl (by omega)) ?_
        refine JA.takeP 3 rfl (by kernel_rfl) (NP.th (NP.th (NP.bl (NP.th (NP.th (NP.bl (NP.th NP.body))))))) (by kernel_rfl) (by kernel_rfl) rfl (PO.fieldAddrE fo152_2 hr_6 rfl) ?_
        refine JA.take 4 rfl (by kernel_rfl) (NP.th (NP.th (NP.bl (NP.th (NP.th (NP.bl (NP.th NP.body))))))) (by kernel_rfl) (by kernel_rfl) (by kernel_rfl) rfl (LO.loadS1 (v := str (((markG mkK 6 l k).getD j k0).to_)) hs_a (fun _ _ => List.not_mem_nil) rfl Tryz.isAgg9 (flat_at encK_len k0 (markG mkK 6 l k) j 2 (by rw [markG_len]; omega) (by decide))) ?_
        refine JA.takeP 5 rfl (by kernel_rfl) (NP.th (NP.th (NP.bl (NP.th (NP.th (NP.bl (NP.th NP.body))))))) (by kernel_rfl) (by kernel_rfl) rfl (PO.move (v := .int .i64 ((((k + 6 * j) + 1) + 1 : Nat) : Int)) rfl) ?_
        refine JA.one (i := 6) (by kernel_rfl) ?_
        refine JX.op rfl rfl (JO.call [] Tryz.call102 rfl (C_markText (((k + 6 * j) + 1) + 1) (by omega) (by omega)) rfl (fun _ _ => trivial)) ?_
        rintro _ _ ⟨_, ⟨rfl, rfl⟩, rfl⟩
        refine ⟨(fun _ h => by cases h), ?_⟩
        refine JA.takeP 7 rfl (by kernel_rfl) (NP.th (NP.th (NP.bl (NP.th (NP.th (NP.bl (NP.th NP.body))))))) (by kernel_rfl) (by kernel_rfl) rfl (PO.neqS rfl rfl) ?_
        refine JA.done (by kernel_rfl) ?_
        refine JQ.seq ?_
        by_cases h_9 : (((markG mkK 6 l k).getD j k0).to_) = (mt (((k + 6 * j) + 1) + 1))
        · skip
          refine JC.condF (congrArg Value.bool (congrArg Bool.not (decide_eq_true h_9))) ?_
          refine JC.skip ?_
          refine JQ.seq ?_
          refine JC.seq ?_
          refine JC.region ?_
          refine JL.pure rfl (PO.move (v := .int .i64 ((((k + 6 * j) + 1) + 1 : Nat) : Int)) rfl) ?_
          refine JL.pure rfl (PO.add (c := (((((k + 6 * j) + 1) + 1) + 1 : Nat) : Int)) rfl rfl (wr (by omega))) ?_
          refine JL.pure rfl (PO.assign (v := .int .i64 (((((k + 6 * j) + 1) + 1) + 1 : Nat) : Int)) rfl) ?_
          refine JL.nil ?_
          refine JQ.seq ?_
          refine JC.seq ?_
          refine JC.seq ?_
          refine JC.region ?_
          refine JL.pure rfl (PO.move (v := .slice a l.length c) he_2) ?_
          refine JL.pure rfl (PO.move (v := .int .i64 ((j : Nat) : Int)) he_4) ?_
          refine JL.pure rfl (PO.indexAddrV (i := j) Tryz.underlying57 Tryz.sizeOf152 hr_6 hr_6b rfl rfl (by omega)) ?_
          refine JL.pure rfl (PO.fieldAddrE fo152_3 hr_6 rfl) ?_
          refine JL.ld rfl (LO.loadS1 (v := .int .i64 (((markG mkK 6 l k).getD j k0).a)) hs_a (fun _ _ => List.not_mem_nil) rfl Tryz.isAgg3 (flat_at encK_len k0 (markG mkK 6 l k) j 3 (by rw [markG_len]; omega) (by decide))) ?_
          refine JL.pure rfl (PO.move (v := .int .i64 (((((k + 6 * j) + 1) + 1) + 1 : Nat) : Int)) rfl) ?_
          refine JL.pure rfl (PO.neqI rfl rfl) ?_
          refine JL.nil ?_
          refine JQ.seq ?_
          by_cases h_10 : (((markG mkK 6 l k).getD j k0).a) = (((((k + 6 * j) + 1) + 1) + 1 : Nat) : Int)
          · skip
            refine JC.condF (congrArg Value.bool (congrArg Bool.not (decide_eq_true h_10))) ?_
            refine JC.skip ?_
            refine JQ.seq ?_
            refine JC.seq ?_
            refine JC.region ?_
            refine JL.pure rfl (PO.move (v := .int .i64 (((((k + 6 * j) + 1) + 1) + 1 : Nat) : Int)) rfl) ?_
            refine JL.pure rfl (PO.add (c := ((((((k + 6 * j) + 1) + 1) + 1) + 1 : Nat) : Int)) rfl rfl (wr (by omega))) ?_
            refine JL.pure rfl (PO.assign (v := .int .i64 ((((((k + 6 * j) + 1) + 1) + 1) + 1 : Nat) : Int)) rfl) ?_
            refine JL.nil ?_
            refine JQ.seq ?_
            refine JC.seq ?_
            refine JC.seq ?_
            refine JC.region ?_
            refine JL.pure rfl (PO.move (v := .slice a l.length c) he_2) ?_
            refine JL.pure rfl (PO.move (v := .int .i64 ((j : Nat) : Int)) he_4) ?_
            refine JL.pure rfl (PO.indexAddrV (i := j) Tryz.underlying57 Tryz.sizeOf152 hr_6 hr_6b rfl rfl (by omega)) ?_
            refine JL.pure rfl (PO.fieldAddrE fo152_4 hr_6 rfl) ?_
            refine JL.ld rfl (LO.loadS1 (v := .int .i64 (((markG mkK 6 l k).getD j k0).b)) hs_a (fun _ _ => List.not_mem_nil) rfl Tryz.isAgg3 (flat_at encK_len k0 (markG mkK 6 l k) j 4 (by rw [markG_len]; omega) (by decide))) ?_
            refine JL.pure rfl (PO.move (v := .int .i64 ((((((k + 6 * j) + 1) + 1) + 1) + 1 : Nat) : Int)) rfl) ?_
            refine JL.pure rfl (PO.neqI rfl rfl) ?_
            refine JL.nil ?_
            refine JQ.seq ?_
            by_cases h_11 : (((markG mkK 6 l k).getD j k0).b) = ((((((k + 6 * j) + 1) + 1) + 1) + 1 : Nat) : Int)
            · skip
              refine JC.condF (congrArg Value.bool (congrArg Bool.not (decide_eq_true h_11))) ?_
              refine JC.skip ?_
              refine JQ.seq ?_
              refine JC.seq ?_
              refine JC.region ?_
              refine JL.pure rfl (PO.move (v := .int .i64 ((((((k + 6 * j) + 1) + 1) + 1) + 1 : Nat) : Int)) rfl) ?_
              refine JL.pure rfl (PO.add (c := (((((((k + 6 * j) + 1) + 1) + 1) + 1) + 1 : Nat) : Int)) rfl rfl (wr (by omega))) ?_
              refine JL.pure rfl (PO.assign (v := .int .i64 (((((((k + 6 * j) + 1) + 1) + 1) + 1) + 1 : Nat) : Int)) rfl) ?_
              refine JL.nil ?_
              refine JQ.seq ?_
              refine JC.seq ?_
              refine JC.seq ?_
              refine JC.regionA [] 7 mixed (by simp) ?_
              refine JA.takeP 0 rfl (by kernel_rfl) (NP.th (NP.th (NP.bl (NP.th (NP.th (NP.bl (NP.th NP.body))))))) (by kernel_rfl) (by kernel_rfl) rfl (PO.move (v := .slice a l.length c) he_2) ?_
              refine JA.takeP 1 rfl (by kernel_rfl) (NP.th (NP.th (NP.bl (NP.th (NP.th (NP.bl (NP.th NP.body))))))) (by kernel_rfl) (by kernel_rfl) rfl (PO.move (v := .int .i64 ((j : Nat) : Int)) he_4) ?_
              refine JA.takeP 2 rfl (by kernel_rfl) (NP.th (NP.th (NP.bl (NP.th (NP.th (NP.bl (NP.th NP.body))))))) (by kernel_rfl) (by kernel_rfl) rfl (PO.indexAddrV (i := j) Tryz.underlying57 Tryz.sizeOf152 hr_6 hr_6b rfl rfl (by omega)) ?_
              refine JA.takeP 3 rfl (by kernel_rfl) (NP.th (NP.th (NP.bl (NP.th (NP.th (NP.bl (NP.th NP.body))))))) (by kernel_rfl) (by kernel_rfl) rfl (PO.fieldAddrE fo152_5 hr_6 rfl) ?_
              refine JA.take 4 rfl (by kernel_rfl) (NP.th (NP.th (NP.bl (NP.th (NP.th (NP.bl (NP.th NP.body))))))) (by kernel_rfl) (by kernel_rfl) (by kernel_rfl) rfl (LO.loadS1 (v := str (((markG mkK 6 l k).getD j k0).text)) hs_a (fun _ _ => List.not_mem_nil) rfl Tryz.isAgg9 (flat_at encK_len k0 (markG mkK 6 l k) j 5 (by rw [markG_len]; omega) (by decide))) ?_
              refine JA.takeP 5 rfl (by kernel_rfl) (NP.th (NP.th (NP.bl (NP.th (NP.th (NP.bl (NP.th NP.body))))))) (by kernel_rfl) (by kernel_rfl) rfl (PO.move (v := .int .i64 (((((((k + 6 * j) + 1) + 1) + 1) + 1) + 1 : Nat) : Int)) rfl) ?_
              refine JA.one (i := 6) (by kernel_rfl) ?_
              refine JX.op rfl rfl (JO.call [] Tryz.call102 rfl (C_markText ((((((k + 6 * j) + 1) + 1) + 1) + 1) + 1) (by omega) (by omega)) rfl (fun _ _ => trivial)) ?_
              rintro _ _ ⟨_, ⟨rfl, rfl⟩, rfl⟩
              refine ⟨(fun _ h => by cases h), ?_⟩
              refine JA.takeP 7 rfl (by kernel_rfl) (NP.th (NP.th (NP.bl (NP.th (NP.th (NP.bl (NP.th NP.body))))))) (by kernel_rfl) (by kernel_rfl) rfl (PO.neqS rfl rfl) ?_
              refine JA.done (by kernel_rfl) ?_
              refine JQ.seq ?_
              by_cases h_12 : (((markG mkK 6 l k).getD j k0).text) = (mt ((((((k + 6 * j) + 1) + 1) + 1) + 1) + 1))
              · skip
                refine JC.condF (congrArg Value.bool (congrArg Bool.not (decide_eq_true h_12))) ?_
                refine JC.skip ?_
                refine JQ.seq ?_
                refine JC.region ?_
                refine JL.pure rfl (PO.move (v := .int .i64 (((((((k + 6 * j) + 1) + 1) + 1) + 1) + 1 : Nat) : Int)) rfl) ?_
                refine JL.pure rfl (PO.add (c := ((((((((k + 6 * j) + 1) + 1) + 1) + 1) + 1) + 1 : Nat) : Int)) rfl rfl (wr (by omega))) ?_
                refine JL.pure rfl (PO.assign (v := .int .i64 ((((((((k + 6 * j) + 1) + 1) + 1) + 1) + 1) + 1 : Nat) : Int)) rfl) ?_
                refine JL.nil ?_
                refine JQ.blockN ?_
                refine JQ.seq ?_
                refine JC.region ?_
                refine JL.pure rfl (PO.move (v := .int .i64 ((j : Nat) : Int)) he_4) ?_
                refine JL.pure rfl (PO.add (c := ((j + 1 : Nat) : Int)) rfl rfl (wr (by omega))) ?_
                refine JL.pure rfl (PO.assign (v := .int .i64 ((j + 1 : Nat) : Int)) rfl) ?_
                refine JL.nil ?_
                refine JQ.again (l.length - (j + 1)) (by omega) ⟨j + 1, by omega, he_2, rfl, rfl, rfl, rfl⟩
              · skip
                exfalso; rw [markG_get mkK 6 k0 l k j hlt] at h_12; first | omega | exact h_12 rfl
            · skip
              exfalso; rw [markG_get mkK 6 k0 l k j hlt] at h_11; first | omega | exact h_11 rfl
          · skip
            exfalso; rw [markG_get mkK 6 k0 l k j hlt] at h_10; first | omega | exact h_10 rfl
        · skip
          exfalso; rw [markG_get mkK 6 k0 l k j hlt] at h_9; first | omega | exact h_9 rfl
      · skip
        exfalso; rw [markG_get mkK 6 k0 l k j hlt] at h_8; first | omega | exact h_8 rfl
    · skip
      exfalso; rw [markG_get mkK 6 k0 l k j hlt] at h_7; first | omega | exact h_7 rfl
  · skip
    refine JC.condF (congrArg Value.bool (decide_eq_false h_5)) ?_
    refine JC.exit ?_
    refine JQ.thenExit ?_
    refine JQ.thenExit ?_
    refine JQ.blockE ?_
    refine JQ.seq ?_
    refine JC.seq ?_
    refine JC.region ?_
    refine JL.pure rfl (PO.move (v := .int .i64 ((k + 6 * j : Nat) : Int)) he_3) ?_
    refine JL.pure rfl (PO.assign (v := .int .i64 ((k + 6 * j : Nat) : Int)) rfl) ?_
    refine JL.nil ?_
    refine JQ.seq ?_
    refine JC.ret ?_
    refine Done.one (.inl rfl) rfl (RV.tmp (v := .int .i64 ((k + 6 * j : Nat) : Int)) rfl) (List.nil_sublist _) ?_
    exact ⟨by rw [show j = l.length by omega], rfl⟩

theorem N_toAnswer (c : AN) :
    Ct Tryz.prog 113 [.agg #[.int .i64 c.code, .int .i64 c.n, str c.text]] [] (fun _ => True) (fun v A' => v = .agg #[.int .i64 c.code, .int .i64 c.n, str c.text] ∧ A' = []) := by
  refine Ct.intro Tryz.func113 rfl Tryz.ntmps113 (Nat.le_of_ble_eq_true rfl) fun w0 hpre => ?_
  refine JC.seq ?_
  refine JC.region ?_
  refine JL.op rfl (JO.box (cs := [.int .i64 c.code, .int .i64 c.n, str c.text]) rfl rfl) ?_
  rintro _ _ ⟨b_1, rfl, rfl⟩
  refine JL.op rfl (JO.alloc (z := .agg #[.int .i64 0, .int .i64 0, str []]) (cs := [.int .i64 0, .int .i64 0, str []]) Tryz.zeroValue154 rfl) ?_
  rintro _ _ ⟨b_2, rfl, rfl⟩
  refine JL.nil ?_
  refine JQ.seq ?_
  refine JC.seq ?_
  refine JC.region ?_
  refine JL.op rfl (JO.alloc (z := .agg #[.int .i64 0, .int .i64 0, str []]) (cs := [.int .i64 0, .int .i64 0, str []]) Tryz.zeroValue154 rfl) ?_
  rintro _ _ ⟨b_3, rfl, rfl⟩
  refine JL.nil ?_
  refine JQ.seq ?_
  refine JC.seq ?_
  refine JC.region ?_
  refine JL.pure rfl (PO.fieldAddr fo151_0 rfl) ?_
  refine JL.ld rfl (LO.load1 2 (v := .int .i64 c.code) rfl rfl Tryz.isAgg3 rfl) ?_
  refine JL.pure rfl (PO.fieldAddr fo154_0 rfl) ?_
  refine JL.op rfl (JO.store 0 (vs := [.int .i64 c.code]) (cs' := [.int .i64 c.code, .int .i64 0, str []]) rfl rfl rfl rfl Tryz.sizeOf3 rfl rfl (Nat.le_of_ble_eq_true rfl) rfl) ?_
  rintro _ _ rfl
  refine JL.nil ?_
  refine JQ.seq ?_
  refine JC.seq ?_
  refine JC.region ?_
  refine JL.pure rfl (PO.fieldAddr fo151_1 rfl) ?_
  refine JL.ld rfl (LO.load1 2 (v := .int .i64 c.n) rfl rfl Tryz.isAgg3 rfl) ?_
  refine JL.pure rfl (PO.fieldAddr fo154_1 rfl) ?_
  refine JL.op rfl (JO.store 0 (vs := [.int .i64 c.n]) (cs' := [.int .i64 c.code, .int .i64 c.n, str []]) rfl rfl rfl rfl Tryz.sizeOf3 rfl rfl (Nat.le_of_ble_eq_true rfl) rfl) ?_
  rintro _ _ rfl
  refine JL.nil ?_
  refine JQ.seq ?_
  refine JC.seq ?_
  refine JC.region ?_
  refine JL.pure rfl (PO.fieldAddr fo151_2 rfl) ?_
  refine JL.ld rfl (LO.load1 2 (v := str c.text) rfl rfl Tryz.isAgg9 rfl) ?_
  refine JL.pure rfl (PO.fieldAddr fo154_2 rfl) ?_
  refine JL.op rfl (JO.store 0 (vs := [str c.text]) (cs' := [.int .i64 c.code, .int .i64 c.n, str c.text]) rfl rfl rfl rfl Tryz.sizeOf9 rfl rfl (Nat.le_of_ble_eq_true rfl) rfl) ?_
  rintro _ _ rfl
  refine JL.nil ?_
  refine JQ.seq ?_
  refine JC.seq ?_
  refine JC.region ?_
  refine JL.ld rfl (LO.loadK 0 (vs := [.int .i64 c.code, .int .i64 c.n, str c.text]) rfl rfl Tryz.isAgg154 Tryz.sizeOf154 rfl rfl) ?_
  refine JL.op rfl (JO.store 1 (vs := [.int .i64 c.code, .int .i64 c.n, str c.text]) (cs' := [.int .i64 c.code, .int .i64 c.n, str c.text]) rfl rfl rfl rfl Tryz.sizeOf154 rfl rfl (Nat.le_of_ble_eq_true rfl) rfl) ?_
  rintro _ _ rfl
  refine JL.nil ?_
  refine JQ.seq ?_
  refine JC.ret ?_
  refine Done.one (.inl rfl) rfl (RV.cell1 (LO.loadK 1 (vs := [.int .i64 c.code, .int .i64 c.n, str c.text]) rfl rfl Tryz.isAgg154 Tryz.sizeOf154 rfl rfl) ⟨_, rfl⟩) (List.nil_sublist _) ?_
  exact ⟨rfl, rfl⟩

theorem C_eqAnswer (a b : AN) :
    Ct Tryz.prog 121 [.agg #[.int .i64 a.code, .int .i64 a.n, str a.text], .agg #[.int .i64 b.code, .int .i64 b.n, str b.text]] [] (fun _ => True) (fun v A' => v = .bool (decide (a = b)) ∧ A' = []) := by
  refine Ct.intro Tryz.func121 rfl Tryz.ntmps121 (Nat.le_of_ble_eq_true rfl) fun w0 hpre => ?_
  refine JC.seq ?_
  refine JC.region ?_
  refine JL.op rfl (JO.box (cs := [.int .i64 a.code, .int .i64 a.n, str a.text]) rfl rfl) ?_
  rintro _ _ ⟨b_1, rfl, rfl⟩
  refine JL.op rfl (JO.box (cs := [.int .i64 b.code, .int .i64 b.n, str b.text]) rfl rfl) ?_
  rintro _ _ ⟨b_2, rfl, rfl⟩
  refine JL.pure rfl (PO.assign (v := .bool false) rfl) ?_
  refine JL.nil ?_
  refine JQ.seq ?_
  refine JC.seq ?_
  refine JC.seq ?_
  refine JC.region ?_
  refine JL.pure rfl (PO.fieldAddr fo154_0 rfl) ?_
  refine JL.ld rfl (LO.load1 1 (v := .int .i64 a.code) rfl rfl Tryz.isAgg3 rfl) ?_
  refine JL.pure rfl (PO.fieldAddr fo154_0 rfl) ?_
  refine JL.ld rfl (LO.load1 0 (v := .int .i64 b.code) rfl rfl Tryz.isAgg3 rfl) ?_
  refine JL.pure rfl (PO.neqI rfl rfl) ?_
  refine JL.nil ?_
  refine JQ.seq ?_
  by_cases h_3 : a.code = b.code
  · skip
    refine JC.condF (congrArg Value.bool (congrArg Bool.not (decide_eq_true h_3))) ?_
    refine JC.skip ?_
    refine JQ.seq ?_
    refine JC.seq ?_
    refine JC.seq ?_
    refine JC.region ?_
    refine JL.pure rfl (PO.fieldAddr fo154_1 rfl) ?_
    refine JL.ld rfl (LO.load1 1 (v := .int .i64 a.n) rfl rfl Tryz.isAgg3 rfl) ?_
    refine JL.pure rfl (PO.fieldAddr fo154_1 rfl) ?_
    refine JL.ld rfl (LO.load1 0 (v := .int .i64 b.n) rfl rfl Tryz.isAgg3 rfl) ?_
    refine JL.pure rfl (PO.neqI rfl rfl) ?_
    refine JL.nil ?_
    refine JQ.seq ?_
    by_cases h_4 : a.n = b.n
    · skip
      refine JC.condF (congrArg Value.bool (congrArg Bool.not (decide_eq_true h_4))) ?_
      refine JC.skip ?_
      refine JQ.seq ?_
      refine JC.seq ?_
      refine JC.seq ?_
      refine JC.region ?_
      refine JL.pure rfl (PO.fieldAddr fo154_2 rfl) ?_
      refine JL.ld rfl (LO.load1 1 (v := str a.text) rfl rfl Tryz.isAgg9 rfl) ?_
      refine JL.pure rfl (PO.fieldAddr fo154_2 rfl) ?_
      refine JL.ld rfl (LO.load1 0 (v := str b.text) rfl rfl Tryz.isAgg9 rfl) ?_
      refine JL.pure rfl (PO.neqS rfl rfl) ?_
      refine JL.nil ?_
      refine JQ.seq ?_
      by_cases h_5 : a.text = b.text
      · skip
        refine JC.condF (congrArg Value.bool (congrArg Bool.not (decide_eq_true h_5))) ?_
        refine JC.skip ?_
        refine JQ.seq ?_
        refine JC.seq ?_
        refine JC.region ?_
        refine JL.pure rfl (PO.assign (v := .bool true) rfl) ?_
        refine JL.nil ?_
        refine JQ.seq ?_
        refine JC.ret ?_
        refine Done.one (.inl rfl) rfl (RV.tmp (v := .bool true) rfl) (List.nil_sublist _) ?_
        refine ⟨congrArg Value.bool ?_, rfl⟩
        exact (decide_eq_true (by cases a; cases b; simp_all)).symm
      · skip
        refine JC.condT (congrArg Value.bool (congrArg Bool.not (decide_eq_false h_5))) ?_
        refine JC.seq ?_
        refine JC.region ?_
        refine JL.pure rfl (PO.assign (v := .bool false) rfl) ?_
        refine JL.nil ?_
        refine JQ.seq ?_
        refine JC.ret ?_
        refine JQ.thenRet ?_
        refine Done.one (.inl rfl) rfl (RV.tmp (v := .bool false) rfl) (List.nil_sublist _) ?_
        refine ⟨congrArg Value.bool ?_, rfl⟩
        exact (decide_eq_false (fun h_ => by subst h_; simp_all)).symm
    · skip
      refine JC.condT (congrArg Value.bool (congrArg Bool.not (decide_eq_false h_4))) ?_
      refine JC.seq ?_
      refine JC.region ?_
      refine JL.pure rfl (PO.assign (v := .bool false) rfl) ?_
      refine JL.nil ?_
      refine JQ.seq ?_
      refine JC.ret ?_
      refine JQ.thenRet ?_
      refine Done.one (.inl rfl) rfl (RV.tmp (v := .bool false) rfl) (List.nil_sublist _) ?_
      refine ⟨congrArg Value.bool ?_, rfl⟩
      exact (decide_eq_false (fun h_ => by subst h_; simp_all)).symm
  · skip
    refine JC.condT (congrArg Value.bool (congrArg Bool.not (decide_eq_false h_3))) ?_
    refine JC.seq ?_
    refine JC.region ?_
    refine JL.pure rfl (PO.assign (v := .bool false) rfl) ?_
    refine JL.nil ?_
    refine JQ.seq ?_
    refine JC.ret ?_
    refine JQ.thenRet ?_
    refine Done.one (.inl rfl) rfl (RV.tmp (v := .bool false) rfl) (List.nil_sublist _) ?_
    refine ⟨congrArg Value.bool ?_, rfl⟩
    exact (decide_eq_false (fun h_ => by subst h_; simp_all)).symm

theorem C_eqAnswerS (a b : Option Addr) (c c' : Nat) (s t : List AN) (hn : s.length ≤ 9223372036854775807) :
    Ct Tryz.prog 67 [.slice a s.length c, .slice b t.length c'] [] (fun w => Sees w (.slice a s.length c) 3 s.length (s.flatMap encA) ∧ Sees w (.slice b t.length c') 3 t.length (t.flatMap encA)) (fun r A' => r = .bool (decide (s = t)) ∧ A' = []) := by
  refine Ct.intro Tryz.func67 rfl Tryz.ntmps67 (Nat.le_of_ble_eq_true rfl) fun w0 hpre => ?_
  have hs_a : Sees w0 _ _ _ _ := hpre.1
  have hs_b : Sees w0 _ _ _ _ := hpre.2
  refine JC.seq ?_
  refine JC.region ?_
  refine JL.pure rfl (PO.assign (v := .bool false) rfl) ?_
  refine JL.nil ?_
  refine JQ.seq ?_
  refine JC.seq ?_
  refine JC.seq ?_
  refine JC.region ?_
  refine JL.pure rfl (PO.move (v := .slice a s.length c) rfl) ?_
  refine JL.pure rfl (PO.lenV Tryz.underlying58 rfl) ?_
  refine JL.pure rfl (PO.move (v := .slice b t.length c') rfl) ?_
  refine JL.pure rfl (PO.lenV Tryz.underlying58 rfl) ?_
  refine JL.pure rfl (PO.neqI rfl rfl) ?_
  refine JL.nil ?_
  refine JQ.seq ?_
  by_cases h_1 : ((s.length : Nat) : Int) = ((t.length : Nat) : Int)
  · skip
    have hlen := h_1
    refine JC.condF (congrArg Value.bool (congrArg Bool.not (decide_eq_true h_1))) ?_
    refine JC.skip ?_
    refine JQ.seq ?_
    refine JC.seq ?_
    refine JC.seq ?_
    refine JC.region ?_
    refine JL.pure rfl (PO.assign (v := .int .i64 0) rfl) ?_
    refine JL.nil ?_
    refine JQ.seq ?_
    refine JC.block ?_
    refine JC.loop (fun k_ e_ L_ => ∃ j : Nat, (j ≤ s.length) ∧ (s.take j = t.take j) ∧ (s.length = t.length) ∧ e_ 0 = .slice a s.length c ∧ e_ 1 = .slice b t.length c' ∧ e_ 5 = .int .i64 ((j : Nat) : Int) ∧ L_ = [] ∧ k_ = s.length - j) _ ⟨0, by omega, rfl, by omega, rfl, rfl, rfl, rfl, rfl⟩ ?_
    rintro _ e_2 _ ⟨j, hj, hE, hln, he_3, he_4, he_5, rfl, rfl⟩
    refine JC.seq ?_
    refine JC.seq ?_
    refine JC.region ?_
    refine JL.pure rfl (PO.move (v := .int .i64 ((j : Nat) : Int)) he_5) ?_
    refine JL.pure rfl (PO.move (v := .slice a s.length c) he_3) ?_
    refine JL.pure rfl (PO.lenV Tryz.underlying58 rfl) ?_
    refine JL.pure rfl (PO.lss rfl rfl) ?_
    refine JL.nil ?_
    refine JQ.seq ?_
    by_cases h_6 : ((j : Nat) : Int) < ((s.length : Nat) : Int)
    · skip
      have hlt : j < s.length := by omega
      refine JC.condT (congrArg Value.bool (decide_eq_true h_6)) ?_
      refine JC.skip ?_
      refine JQ.seq ?_
      refine JC.seq ?_
      refine JC.block ?_
      refine JC.seq ?_
      refine JC.regionA [] 1000 mixed (by simp) ?_
      refine JA.takeP 0 rfl (by kernel_rfl) (NP.th (NP.bl (NP.th (NP.th (NP.bl (NP.th NP.body)))))) (by kernel_rfl) (by kernel_rfl) rfl (PO.move (v := .slice a s.length c) he_3) ?_
      refine JA.takeP 1 rfl (by kernel_rfl) (NP.th (NP.bl (NP.th (NP.th (NP.bl (NP.th NP.body)))))) (by kernel_rfl) (by kernel_rfl) rfl (PO.move (v := .int .i64 ((j : Nat) : Int)) he_5) ?_
      obtain ⟨hr_7, hr_7b, -⟩ := sees_some hs_a (by omega)
      refine JA.takeP 2 rfl (by kernel_rfl) (NP.th (NP.bl (NP.th (NP.th (NP.bl (NP.th NP.body)))))) (by kernel_rfl) (by kernel_rfl) rfl (PO.indexAddrV (i := j) Tryz.underlying58 Tryz.sizeOf154 hr_7 hr_7b rfl rfl (by omega)) ?_
      refine JA.take 3 rfl (by kernel_rfl) (NP.th (NP.bl (NP.th (NP.th (NP.bl (NP.th NP.body)))))) (by kernel_rfl) (by kernel_rfl) (by kernel_rfl) rfl (LO.loadSK (vs := [.int .i64 ((s.getD j a0_).code), .int .i64 ((s.getD j a0_).n), str ((s.getD j a0_).text)]) hs_a (fun _ _ => List.not_mem_nil) rfl Tryz.isAgg154 Tryz.sizeOf154 (flat_take encA_len a0_ s j (by omega)) rfl (by decide)) ?_
      refine JA.takeP 4 rfl (by kernel_rfl) (NP.th (NP.bl (NP.th (NP.th (NP.bl (NP.th NP.body)))))) (by kernel_rfl) (by kernel_rfl) rfl (PO.move (v := .slice b t.length c') he_4) ?_
      refine JA.takeP 5 rfl (by kernel_rfl) (NP.th (NP.bl (NP.th (NP.th (NP.bl (NP.th NP.body)))))) (by kernel_rfl) (by kernel_rfl) rfl (PO.move (v := .int .i64 ((j : Nat) : Int)) he_5) ?_
      obtain ⟨hr_8, hr_8b, -⟩ := sees_some hs_b (by omega)
      refine JA.takeP 6 rfl (by kernel_rfl) (NP.th (NP.bl (NP.th (NP.th (NP.bl (NP.th NP.body)))))) (by kernel_rfl) (by kernel_rfl) rfl (PO.indexAddrV (i := j) Tryz.underlying58 Tryz.sizeOf154 hr_8 hr_8b rfl rfl (by omega)) ?_
      refine JA.take 7 rfl (by kernel_rfl) (NP.th (NP.bl (NP.th (NP.th (NP.bl (NP.th NP.body)))))) (by kernel_rfl) (by kernel_rfl) (by kernel_rfl) rfl (LO.loadSK (vs := [.int .i64 ((t.getD j a0_).code), .int .i64 ((t.getD j a0_).n), str ((t.getD j a0_).text)]) hs_b (fun _ _ => List.not_mem_nil) rfl Tryz.isAgg154 Tryz.sizeOf154 (flat_take encA_len a0_ t j (by omega)) rfl (by decide)) ?_
      refine JA.one (i := 8) (by kernel_rfl) ?_
      refine JX.op rfl rfl (JO.call [] Tryz.call121 rfl (C_eqAnswer (s.getD j a0_) (t.getD j a0_)) rfl (fun _ _ => trivial)) ?_
      rintro _ _ ⟨_, ⟨rfl, rfl⟩, rfl⟩
      refine ⟨(fun _ h => by cases h), ?_⟩
      refine JA.takeP 9 rfl (by kernel_rfl) (NP.th (NP.bl (NP.th (NP.th (NP.bl (NP.th NP.body)))))) (by kernel_rfl) (by kernel_rfl) rfl (PO.not rfl) ?_
      refine JA.done (by kernel_rfl) ?_
      refine JQ.seq ?_
      by_cases h_9 : (s.getD j a0_) = (t.getD j a0_)
      · skip
        have heq := h_9
        refine JC.condF (congrArg Value.bool (congrArg Bool.not (decide_eq_true h_9))) ?_
        refine JC.skip ?_
        refine JQ.blockN ?_
        refine JQ.seq ?_
        refine JC.region ?_
        refine JL.pure rfl (PO.move (v := .int .i64 ((j : Nat) : Int)) he_5) ?_
        refine JL.pure rfl (PO.add (c := ((j + 1 : Nat) : Int)) rfl rfl (wr (by omega))) ?_
        refine JL.pure rfl (PO.assign (v := .int .i64 ((j + 1 : Nat) : Int)) rfl) ?_
        refine JL.nil ?_
        refine JQ.again (s.length - (j + 1)) (by omega) ⟨j + 1, by omega, take_succ_eq a0_ hE hlt hln heq, hln, he_3, he_4, rfl, rfl, rfl⟩
      · skip
        have hne := h_9
        refine JC.condT (congrArg Value.bool (congrArg Bool.not (decide_eq_false h_9))) ?_
        refine JC.seq ?_
        refine JC.region ?_
        refine JL.pure rfl (PO.assign (v := .bool false) rfl) ?_
        refine JL.nil ?_
        refine JQ.seq ?_
        refine JC.ret ?_
        refine JQ.blockRet ?_
        refine JQ.thenRet ?_
        refine JQ.thenRet ?_
        refine JQ.blockRet ?_
        refine JQ.thenRet ?_
        refine Done.one (.inl rfl) rfl (RV.tmp (v := .bool false) rfl) (List.nil_sublist _) ?_
        refine ⟨?_, rfl⟩
        rw [decide_eq_false (fun h => hne (by rw [h]))]
    · skip
      refine JC.condF (congrArg Value.bool (decide_eq_false h_6)) ?_
      refine JC.exit ?_
      refine JQ.thenExit ?_
      refine JQ.thenExit ?_
      refine JQ.blockE ?_
      refine JQ.seq ?_
      refine JC.seq ?_
      refine JC.region ?_
      refine JL.pure rfl (PO.assign (v := .bool true) rfl) ?_
      refine JL.nil ?_
      refine JQ.seq ?_
      refine JC.ret ?_
      refine Done.one (.inl rfl) rfl (RV.tmp (v := .bool true) rfl) (List.nil_sublist _) ?_
      refine ⟨?_, rfl⟩
      rw [decide_eq_true (take_all_eq hE (by omega) (by omega))]
  · skip
    have hlen := h_1
    refine JC.condT (congrArg Value.bool (congrArg Bool.not (decide_eq_false h_1))) ?_
    refine JC.seq ?_
    refine JC.region ?_
    refine JL.pure rfl (PO.assign (v := .bool false) rfl) ?_
    refine JL.nil ?_
    refine JQ.seq ?_
    refine JC.ret ?_
    refine JQ.thenRet ?_
    refine Done.one (.inl rfl) rfl (RV.tmp (v := .bool false) rfl) (List.nil_sublist _) ?_
    refine ⟨?_, rfl⟩
    rw [decide_eq_false (fun h => by rw [h] at hlen; omega)]

theorem C_markAnswerS (a : Option Addr) (c : Nat) (l : List AN) (k : Nat) (h0 : 0 < k) (h1 : k + 3 * l.length ≤ 100000000) :
    Ct Tryz.prog 71 [.slice a l.length c, .int .i64 ((k : Nat) : Int)] [Res.row (.slice a l.length c) 154 3 l.length (l.flatMap encA)] (fun _ => True) (fun v A' => v = .int .i64 ((k + 3 * l.length : Nat) : Int) ∧ A' = [.row (.slice a l.length c) 154 3 l.length ((markG mkA 3 l k).flatMap encA)]) := by
  refine Ct.intro Tryz.func71 rfl Tryz.ntmps71 (Nat.le_of_ble_eq_true rfl) fun w0 hpre => ?_
  refine JC.seq ?_
  refine JC.region ?_
  refine JL.pure rfl (PO.assign (v := .int .i64 0) rfl) ?_
  refine JL.nil ?_
  refine JQ.seq ?_
  refine JC.seq ?_
  refine JC.seq ?_
  refine JC.region ?_
  refine JL.pure rfl (PO.assign (v := .int .i64 0) rfl) ?_
  refine JL.nil ?_
  refine JQ.seq ?_
  refine JC.block ?_
  refine JC.loop (fun k_ e_ L_ => ∃ j : Nat, (j ≤ l.length) ∧ e_ 0 = .slice a l.length c ∧ e_ 1 = .int .i64 ((k + 3 * j : Nat) : Int) ∧ e_ 4 = .int .i64 0 ∧ e_ 5 = .int .i64 ((j : Nat) : Int) ∧ L_ = [Res.row (.slice a l.length c) 154 3 l.length (((markG mkA 3 l k).take j ++ l.drop j).flatMap encA)] ∧ k_ = l.length - j) _ ⟨0, by omega, rfl, rfl, rfl, rfl, rfl, rfl⟩ ?_
  rintro _ e_1 _ ⟨j, hj, he_2, he_3, he_4, he_5, rfl, rfl⟩
  refine JC.seq ?_
  refine JC.seq ?_
  refine JC.region ?_
  refine JL.pure rfl (PO.move (v := .int .i64 ((j : Nat) : Int)) he_5) ?_
  refine JL.pure rfl (PO.move (v := .slice a l.length c) he_2) ?_
  refine JL.pure rfl (PO.lenV Tryz.underlying58 rfl) ?_
  refine JL.pure rfl (PO.lss rfl rfl) ?_
  refine JL.nil ?_
  refine JQ.seq ?_
  by_cases h_6 : ((j : Nat) : Int) < ((l.length : Nat) : Int)
  · skip
    have hlt : j < l.length := by omega
    refine JC.condT (congrArg Value.bool (decide_eq_true h_6)) ?_
    refine JC.skip ?_
    refine JQ.seq ?_
    refine JC.seq ?_
    refine JC.block ?_
    refine JC.seq ?_
    refine JC.region ?_
    refine JL.pure rfl (PO.move (v := .slice a l.length c) he_2) ?_
    refine JL.pure rfl (PO.move (v := .int .i64 ((j : Nat) : Int)) he_5) ?_
    refine JL.pure rfl (PO.move (v := .int .i64 ((k + 3 * j : Nat) : Int)) he_3) ?_
    refine JL.facts fun hst => ?_
    obtain ⟨hr_7, hr_7b, -⟩ := row_some 0 rfl (by omega) hst
    refine JL.pure rfl (PO.indexAddrV (i := j) Tryz.underlying58 Tryz.sizeOf154 hr_7 hr_7b rfl rfl (by omega)) ?_
    refine JL.pure rfl (PO.fieldAddrE fo154_0 hr_7 rfl) ?_
    refine JL.op rfl (JO.storeR 0 (vs := [.int .i64 ((k + 3 * j : Nat) : Int)]) (cs' := (((markG mkA 3 l k).take j ++ l.drop j).set j (⟨((k + 3 * j : Nat) : Int), (((markG mkA 3 l k).take j ++ l.drop j).getD j a0_).n, (((markG mkA 3 l k).take j ++ l.drop j).getD j a0_).text⟩ : AN)).flatMap encA) rfl rfl rfl rfl Tryz.sizeOf3 rfl rfl (by decide) (by rw [flat_length encA_len]; (try rw [List.length_set]); rw [markG_lenj mkA 3 hj]; omega) (flat_set1 encA_len a0_ (f := 0) (y := (⟨((k + 3 * j : Nat) : Int), (((markG mkA 3 l k).take j ++ l.drop j).getD j a0_).n, (((markG mkA 3 l k).take j ++ l.drop j).getD j a0_).text⟩ : AN)) (by rw [markG_lenj mkA 3 hj]; omega) (by decide) rfl)) ?_
    rintro _ _ rfl
    refine JL.nil ?_
    refine JQ.seq ?_
    refine JC.seq ?_
    refine JC.region ?_
    refine JL.pure rfl (PO.move (v := .int .i64 ((k + 3 * j : Nat) : Int)) he_3) ?_
    refine JL.pure rfl (PO.add (c := (((k + 3 * j) + 1 : Nat) : Int)) rfl rfl (wr (by omega))) ?_
    refine JL.pure rfl (PO.assign (v := .int .i64 (((k + 3 * j) + 1 : Nat) : Int)) rfl) ?_
    refine JL.nil ?_
    refine JQ.seq ?_
    refine JC.seq ?_
    refine JC.region ?_
    refine JL.pure rfl (PO.move (v := .slice a l.length c) he_2) ?_
    refine JL.pure rfl (PO.move (v := .int .i64 ((j : Nat) : Int)) he_5) ?_
    refine JL.pure rfl (PO.move (v := .int .i64 (((k + 3 * j) + 1 : Nat) : Int)) rfl) ?_
    refine JL.pure rfl (PO.indexAddrV (i := j) Tryz.underlying58 Tryz.sizeOf154 hr_7 hr_7b rfl rfl (by omega)) ?_
    refine JL.pure rfl (PO.fieldAddrE fo154_1 hr_7 rfl) ?_
    refine JL.op rfl (JO.storeR 0 (vs := [.int .i64 (((k + 3 * j) + 1 : Nat) : Int)]) (cs' := (((markG mkA 3 l k).take j ++ l.drop j).set j (⟨((k + 3 * j : Nat) : Int), (((k + 3 * j) + 1 : Nat) : Int), (((markG mkA 3 l k).take j ++ l.drop j).getD j a0_).text⟩ : AN)).flatMap encA) rfl rfl rfl rfl Tryz.sizeOf3 rfl rfl (by decide) (by rw [flat_length encA_len]; (try rw [List.length_set]); rw [markG_lenj mkA 3 hj]; omega) (flat_set1s encA_len a0_ (f := 1) (x := (⟨((k + 3 * j : Nat) : Int), (((markG mkA 3 l k).take j ++ l.drop j).getD j a0_).n, (((markG mkA 3 l k).take j ++ l.drop j).getD j a0_).text⟩ : AN)) (y := (⟨((k + 3 * j : Nat) : Int), (((k + 3 * j) + 1 : Nat) : Int), (((markG mkA 3 l k).take j ++ l.drop j).getD j a0_).text⟩ : AN)) (by rw [markG_lenj mkA 3 hj]; omega) (by decide) rfl)) ?_
    rintro _ _ rfl
    refine JL.nil ?_
    refine JQ.seq ?_
    refine JC.seq ?_
    refine JC.region ?_
    refine JL.pure rfl (PO.move (v := .int .i64 (((k + 3 * j) + 1 : Nat) : Int)) rfl) ?_
    refine JL.pure rfl (PO.add (c := ((((k + 3 * j) + 1) + 1 : Nat) : Int)) rfl rfl (wr (by omega))) ?_
    refine JL.pure rfl (PO.assign (v := .int .i64 ((((k + 3 * j) + 1) + 1 : Nat) : Int)) rfl) ?_
    refine JL.nil ?_
    refine JQ.seq ?_
    refine JC.seq ?_
    refine JC.region ?_
    refine JL.pure rfl (PO.move (v := .slice a l.length c) he_2) ?_
    refine JL.pure rfl (PO.move (v := .int .i64 ((j : Nat) : Int)) he_5) ?_
    refine JL.pure rfl (PO.move (v := .int .i64 ((((k + 3 * j) + 1) + 1 : Nat) : Int)) rfl) ?_
    refine JL.op rfl (JO.call [] Tryz.call102 rfl (C_markText (((k + 3 * j) + 1) + 1) (by omega) (by omega)) rfl (fun _ _ => trivial)) ?_
    rintro _ _ ⟨_, ⟨rfl, rfl⟩, rfl⟩
    refine JL.pure rfl (PO.indexAddrV (i := j) Tryz.underlying58 Tryz.sizeOf154 hr_7 hr_7b rfl rfl (by omega)) ?_
    refine JL.pure rfl (PO.fieldAddrE fo154_2 hr_7 rfl) ?_
    refine JL.op rfl (JO.storeR 0 (vs := [str (mt (((k + 3 * j) + 1) + 1))]) (cs' := (((markG mkA 3 l k).take j ++ l.drop j).set j (⟨((k + 3 * j : Nat) : Int), (((k + 3 * j) + 1 : Nat) : Int), mt (((k + 3 * j) + 1) + 1)⟩ : AN)).flatMap encA) rfl rfl rfl rfl Tryz.sizeOf9 rfl rfl (by decide) (by rw [flat_length encA_len]; (try rw [List.length_set]); rw [markG_lenj mkA 3 hj]; omega) (flat_set1s encA_len a0_ (f := 2) (x := (⟨((k + 3 * j : Nat) : Int), (((k + 3 * j) + 1 : Nat) : Int), (((markG mkA 3 l k).take j ++ l.drop j).getD j a0_).text⟩ : AN)) (y := (⟨((k + 3 * j : Nat) : Int), (((k + 3 * j) + 1 : Nat) : Int), mt (((k + 3 * j) + 1) + 1)⟩ : AN)) (by rw [markG_lenj mkA 3 hj]; omega) (by decide) rfl)) ?_
    rintro _ _ rfl
    refine JL.nil ?_
    refine JQ.seq ?_
    refine JC.region ?_
    refine JL.pure rfl (PO.move (v := .int .i64 ((((k + 3 * j) + 1) + 1 : Nat) : Int)) rfl) ?_
    refine JL.pure rfl (PO.add (c := (((((k + 3 * j) + 1) + 1) + 1 : Nat) : Int)) rfl rfl (wr (by omega))) ?_
    refine JL.pure rfl (PO.assign (v := .int .i64 (((((k + 3 * j) + 1) + 1) + 1 : Nat) : Int)) rfl) ?_
    refine JL.nil ?_
    refine JQ.blockN ?_
    refine JQ.seq ?_
    refine JC.region ?_
    refine JL.pure rfl (PO.move (v := .int .i64 ((j : Nat) : Int)) he_5) ?_
    refine JL.pure rfl (PO.add (c := ((j + 1 : Nat) : Int)) rfl rfl (wr (by omega))) ?_
    refine JL.pure rfl (PO.assign (v := .int .i64 ((j + 1 : Nat) : Int)) rfl) ?_
    refine JL.nil ?_
    refine JQ.again (l.length - (j + 1)) (by omega) ⟨j + 1, by omega, he_2, rfl, he_4, rfl, (by rw [← markG_step mkA 3 hlt]; rfl), rfl⟩
  · skip
    refine JC.condF (congrArg Value.bool (decide_eq_false h_6)) ?_
    refine JC.exit ?_
    refine JQ.thenExit ?_
    refine JQ.thenExit ?_
    refine JQ.blockE ?_
    refine JQ.seq ?_
    refine JC.seq ?_
    refine JC.region ?_
    refine JL.pure rfl (PO.move (v := .int .i64 ((k + 3 * j : Nat) : Int)) he_3) ?_
    refine JL.pure rfl (PO.assign (v := .int .i64 ((k + 3 * j : Nat) : Int)) rfl) ?_
    refine JL.nil ?_
    refine JQ.seq ?_
    refine JC.ret ?_
    refine Done.one (.inl rfl) rfl (RV.tmp (v := .int .i64 ((k + 3 * j : Nat) : Int)) rfl) (List.Sublist.refl _) ?_
    exact ⟨by rw [show j = l.length by omega], by rw [show j = l.length by omega, List.drop_of_length_le (Nat.le_refl _), List.append_nil, List.take_of_length_le (by rw [markG_len]; exact Nat.le_refl _)]⟩

theorem C_heldAnswerS (a : Option Addr) (c : Nat) (l : List AN) (k : Nat) (h0 : 0 < k) (h1 : k + 3 * l.length ≤ 100000000) :
    Ct Tryz.prog 106 [.slice a l.length c, .int .i64 ((k : Nat) : Int)] [] (fun w => Sees w (.slice a l.length c) 3 l.length ((markG mkA 3 l k).flatMap encA)) (fun v A' => v = .int .i64 ((k + 3 * l.length : Nat) : Int) ∧ A' = []) := by
  refine Ct.intro Tryz.func106 rfl Tryz.ntmps106 (Nat.le_of_ble_eq_true rfl) fun w0 hpre => ?_
  have hs_a : Sees w0 _ _ _ _ := hpre
  refine JC.seq ?_
  refine JC.region ?_
  refine JL.pure rfl (PO.assign (v := .int .i64 0) rfl) ?_
  refine JL.nil ?_
  refine JQ.seq ?_
  refine JC.seq ?_
  refine JC.seq ?_
  refine JC.region ?_
  refine JL.pure rfl (PO.assign (v := .int .i64 0) rfl) ?_
  refine JL.nil ?_
  refine JQ.seq ?_
  refine JC.block ?_
  refine JC.loop (fun k_ e_ L_ => ∃ j : Nat, (j ≤ l.length) ∧ e_ 0 = .slice a l.length c ∧ e_ 1 = .int .i64 ((k + 3 * j : Nat) : Int) ∧ e_ 5 = .int .i64 ((j : Nat) : Int) ∧ L_ = [] ∧ k_ = l.length - j) _ ⟨0, by omega, rfl, rfl, rfl, rfl, rfl⟩ ?_
  rintro _ e_1 _ ⟨j, hj, he_2, he_3, he_4, rfl, rfl⟩
  refine JC.seq ?_
  refine JC.seq ?_
  refine JC.region ?_
  refine JL.pure rfl (PO.move (v := .int .i64 ((j : Nat) : Int)) he_4) ?_
  refine JL.pure rfl (PO.move (v := .slice a l.length c) he_2) ?_
  refine JL.pure rfl (PO.lenV Tryz.underlying58 rfl) ?_
  refine JL.pure rfl (PO.lss rfl rfl) ?_
  refine JL.nil ?_
  refine JQ.seq ?_
  by_cases h_5 : ((j : Nat) : Int) < ((l.length : Nat) : Int)
  · skip
    have hlt : j < l.length := by omega
    refine JC.condT (congrArg Value.bool (decide_eq_true h_5)) ?_
    refine JC.skip ?_
    refine JQ.seq ?_
    refine JC.seq ?_
    refine JC.block ?_
    refine JC.seq ?_
    refine JC.seq ?_
    refine JC.region ?_
    refine JL.pure rfl (PO.move (v := .slice a l.length c) he_2) ?_
    refine JL.pure rfl (PO.move (v := .int .i64 ((j : Nat) : Int)) he_4) ?_
    obtain ⟨hr_6, hr_6b, -⟩ := sees_some hs_a (by omega)
    refine JL.pure rfl (PO.indexAddrV (i := j) Tryz.underlying58 Tryz.sizeOf154 hr_6 hr_6b rfl rfl (by omega)) ?_
    refine JL.pure rfl (PO.fieldAddrE fo154_0 hr_6 rfl) ?_
    refine JL.ld rfl (LO.loadS1 (v := .int .i64 (((markG mkA 3 l k).getD j a0_).code)) hs_a (fun _ _ => List.not_mem_nil) rfl Tryz.isAgg3 (flat_at encA_len a0_ (markG mkA 3 l k) j 0 (by rw [markG_len]; omega) (by decide))) ?_
    refine JL.pure rfl (PO.move (v := .int .i64 ((k + 3 * j : Nat) : Int)) he_3) ?_
    refine JL.pure rfl (PO.neqI rfl rfl) ?_
    refine JL.nil ?_
    refine JQ.seq ?_
    by_cases h_7 : (((markG mkA 3 l k).getD j a0_).code) = ((k + 3 * j : Nat) : Int)
    · skip
      refine JC.condF (congrArg Value.bool (congrArg Bool.not (decide_eq_true h_7))) ?_
      refine JC.skip ?_
      refine JQ.seq ?_
      refine JC.seq ?_
      refine JC.region ?_
      refine JL.pure rfl (PO.move (v := .int .i64 ((k + 3 * j : Nat) : Int)) he_3) ?_
      refine JL.pure rfl (PO.add (c := (((k + 3 * j) + 1 : Nat) : Int)) rfl rfl (wr (by omega))) ?_
      refine JL.pure rfl (PO.assign (v := .int .i64 (((k + 3 * j) + 1 : Nat) : Int)) rfl) ?_
      refine JL.nil ?_
      refine JQ.seq ?_
      refine JC.seq ?_
      refine JC.seq ?_
      refine JC.region ?_
      refine JL.pure rfl (PO.move (v := .slice a l.length c) he_2) ?_
      refine JL.pure rfl (PO.move (v := .int .i64 ((j : Nat) : Int)) he_4) ?_
      refine JL.pure rfl (PO.indexAddrV (i := j) Tryz.underlying58 Tryz.sizeOf154 hr_6 hr_6b rfl rfl (by omega)) ?_
      refine JL.pure rfl (PO.fieldAddrE fo154_1 hr_6 rfl) ?_
      refine JL.ld rfl (LO.loadS1 (v := .int .i64 (((markG mkA 3 l k).getD j a0_).n)) hs_a (fun _ _ => List.not_mem_nil) rfl Tryz.isAgg3 (flat_at encA_len a0_ (markG mkA 3 l k) j 1 (by rw [markG_len]; omega) (by decide))) ?_
      refine JL.pure rfl (PO.move (v := .int .i64 (((k + 3 * j) + 1 : Nat) : Int)) rfl) ?_
      refine JL.pure rfl (PO.neqI rfl rfl) ?_
      refine JL.nil ?_
      refine JQ.seq ?_
      by_cases h_8 : (((markG mkA 3 l k).getD j a0_).n) = (((k + 3 * j) + 1 : Nat) : Int)
      · skip
        refine JC.condF (congrArg Value.bool (congrArg Bool.not (decide_eq_true h_8))) ?_
        refine JC.skip ?_
        refine JQ.seq ?_
        refine JC.seq ?_
        refine JC.region ?_
        refine JL.pure rfl (PO.move (v := .int .i64 (((k + 3 * j) + 1 : Nat) : Int)) rfl) ?_
        refine JL.pure rfl (PO.add (c := ((((k + 3 * j) + 1) + 1 : Nat) : Int)) rfl rfl (wr (by omega))) ?_
        refine JL.pure rfl (PO.assign (v := .int .i64 ((((k + 3 * j) + 1) + 1 : Nat) : Int)) rfl) ?_
        refine JL.nil ?_
        refine JQ.seq ?_
        refine JC.seq ?_
        refine JC.seq ?_
        refine JC.regionA [] 7 mixed (by simp) ?_
        refine JA.takeP 0 rfl (by kernel_rfl) (NP.th (NP.th (NP.bl (NP.th (NP.th (NP.bl (NP.th NP.body))))))) (by kernel_rfl) (by kernel_rfl) rfl (PO.move (v := .slice a l.length c) he_2) ?_
        refine JA.takeP 1 rfl (by kernel_rfl) (NP.th (NP.th (NP.bl (NP.th (NP.th (NP.bl (NP.th NP.body))))))) (by kernel_rfl) (by kernel_rfl) rfl (PO.move (v := .int .i64 ((j : Nat) : Int)) he_4) ?_
        refine JA.takeP 2 rfl (by kernel_rfl) (NP.th (NP.th (NP.bl (NP.th (NP.th (NP.bl (NP.th NP.body))))))) (by kernel_rfl) (by kernel_rfl) rfl (PO.indexAddrV (i := j) Tryz.underlying58 Tryz.sizeOf154 hr_6 hr_6b rfl rfl (by omega)) ?_
        refine JA.takeP 3 rfl (by kernel_rfl) (NP.th (NP.th (NP.bl (NP.th (NP.th (NP.bl (NP.th NP.body))))))) (by kernel_rfl) (by kernel_rfl) rfl (PO.fieldAddrE fo154_2 hr_6 rfl) ?_
        refine JA.take 4 rfl (by kernel_rfl) (NP.th (NP.th (NP.bl (NP.th (NP.th (NP.bl (NP.th NP.body))))))) (by kernel_rfl) (by kernel_rfl) (by kernel_rfl) rfl (LO.loadS1 (v := str (((markG mkA 3 l k).getD j a0_).text)) hs_a (fun _ _ => List.not_mem_nil) rfl Tryz.isAgg9 (flat_at encA_len a0_ (markG mkA 3 l k) j 2 (by rw [markG_len]; omega) (by decide))) ?_
        refine JA.takeP 5 rfl (by kernel_rfl) (NP.th (NP.th (NP.bl (NP.th (NP.th (NP.bl (NP.th NP.body))))))) (by kernel_rfl) (by kernel_rfl) rfl (PO.move (v := .int .i64 ((((k + 3 * j) + 1) + 1 : Nat) : Int)) rfl) ?_
        refine JA.one (i := 6) (by kernel_rfl) ?_
        refine JX.op rfl rfl (JO.call [] Tryz.call102 rfl (C_markText (((k + 3 * j) + 1) + 1) (by omega) (by omega)) rfl (fun _ _ => trivial)) ?_
        rintro _ _ ⟨_, ⟨rfl, rfl⟩, rfl⟩
        refine ⟨(fun _ h => by cases h), ?_⟩
        refine JA.takeP 7 rfl (by kernel_rfl) (NP.th (NP.th (NP.bl (NP.th (NP.th (NP.bl (NP.th NP.body))))))) (by kernel_rfl) (by kernel_rfl) rfl (PO.neqS rfl rfl) ?_
        refine JA.done (by kernel_rfl) ?_
        refine JQ.seq ?_
        by_cases h_9 : (((markG mkA 3 l k).getD j a0_).text) = (mt (((k + 3 * j) + 1) + 1))
        · skip
          refine JC.condF (congrArg Value.bool (congrArg Bool.not (decide_eq_true h_9))) ?_
          refine JC.skip ?_
          refine JQ.seq ?_
          refine JC.region ?_
          refine JL.pure rfl (PO.move (v := .int .i64 ((((k + 3 * j) + 1) + 1 : Nat) : Int)) rfl) ?_
          refine JL.pure rfl (PO.add (c := (((((k + 3 * j) + 1) + 1) + 1 : Nat) : Int)) rfl rfl (wr (by omega))) ?_
          refine JL.pure rfl (PO.assign (v := .int .i64 (((((k + 3 * j) + 1) + 1) + 1 : Nat) : Int)) rfl) ?_
          refine JL.nil ?_
          refine JQ.blockN ?_
          refine JQ.seq ?_
          refine JC.region ?_
          refine JL.pure rfl (PO.move (v := .int .i64 ((j : Nat) : Int)) he_4) ?_
          refine JL.pure rfl (PO.add (c := ((j + 1 : Nat) : Int)) rfl rfl (wr (by omega))) ?_
          refine JL.pure rfl (PO.assign (v := .int .i64 ((j + 1 : Nat) : Int)) rfl) ?_
          refine JL.nil ?_
          refine JQ.again (l.length - (j + 1)) (by omega) ⟨j + 1, by omega, he_2, rfl, rfl, rfl, rfl⟩
        · skip
          exfalso; rw [markG_get mkA 3 a0_ l k j hlt] at h_9; first | omega | exact h_9 rfl
      · skip
        exfalso; rw [markG_get mkA 3 a0_ l k j hlt] at h_8; first | omega | exact h_8 rfl
    · skip
      exfalso; rw [markG_get mkA 3 a0_ l k j hlt] at h_7; first | omega | exact h_7 rfl
  · skip
    refine JC.condF (congrArg Value.bool (decide_eq_false h_5)) ?_
    refine JC.exit ?_
    refine JQ.thenExit ?_
    refine JQ.thenExit ?_
    refine JQ.blockE ?_
    refine JQ.seq ?_
    refine JC.seq ?_
    refine JC.region ?_
    refine JL.pure rfl (PO.move (v := .int .i64 ((k + 3 * j : Nat) : Int)) he_3) ?_
    refine JL.pure rfl (PO.assign (v := .int .i64 ((k + 3 * j : Nat) : Int)) rfl) ?_
    refine JL.nil ?_
    refine JQ.seq ?_
    refine JC.ret ?_
    refine Done.one (.inl rfl) rfl (RV.tmp (v := .int .i64 ((k + 3 * j : Nat) : Int)) rfl) (List.nil_sublist _) ?_
    exact ⟨by rw [show j = l.length by omega], rfl⟩

theorem N_toStep (c : SP) :
    Ct Tryz.prog 153 [.agg #[.int .i64 c.proc, .int .i64 c.call.kind, str c.call.name, str c.call.to_, .int .i64 c.call.a, .int .i64 c.call.b, str c.call.text]] [] (fun _ => True) (fun v A' => v = .agg #[.int .i64 c.proc, .int .i64 c.call.kind, str c.call.name, str c.call.to_, .int .i64 c.call.a, .int .i64 c.call.b, str c.call.text] ∧ A' = []) := by
  refine Ct.intro Tryz.func153 rfl Tryz.ntmps153 (Nat.le_of_ble_eq_true rfl) fun w0 hpre => ?_
  refine JC.seq ?_
  refine JC.region ?_
  refine JL.op rfl (JO.box (cs := [.int .i64 c.proc, .int .i64 c.call.kind, str c.call.name, str c.call.to_, .int .i64 c.call.a, .int .i64 c.call.b, str c.call.text]) rfl rfl) ?_
  rintro _ _ ⟨b_1, rfl, rfl⟩
  refine JL.op rfl (JO.alloc (z := .agg #[.int .i64 0, .int .i64 0, str [], str [], .int .i64 0, .int .i64 0, str []]) (cs := [.int .i64 0, .int .i64 0, str [], str [], .int .i64 0, .int .i64 0, str []]) Tryz.zeroValue179 rfl) ?_
  rintro _ _ ⟨b_2, rfl, rfl⟩
  refine JL.nil ?_
  refine JQ.seq ?_
  refine JC.seq ?_
  refine JC.region ?_
  refine JL.op rfl (JO.alloc (z := .agg #[.int .i64 0, .int .i64 0, str [], str [], .int .i64 0, .int .i64 0, str []]) (cs := [.int .i64 0, .int .i64 0, str [], str [], .int .i64 0, .int .i64 0, str []]) Tryz.zeroValue179 rfl) ?_
  rintro _ _ ⟨b_3, rfl, rfl⟩
  refine JL.nil ?_
  refine JQ.seq ?_
  refine JC.seq ?_
  refine JC.region ?_
  refine JL.pure rfl (PO.fieldAddr fo188_0 rfl) ?_
  refine JL.ld rfl (LO.load1 2 (v := .int .i64 c.proc) rfl rfl Tryz.isAgg3 rfl) ?_
  refine JL.pure rfl (PO.fieldAddr fo179_0 rfl) ?_
  refine JL.op rfl (JO.store 0 (vs := [.int .i64 c.proc]) (cs' := [.int .i64 c.proc, .int .i64 0, str [], str [], .int .i64 0, .int .i64 0, str []]) rfl rfl rfl rfl Tryz.sizeOf3 rfl rfl (Nat.le_of_ble_eq_true rfl) rfl) ?_
  rintro _ _ rfl
  refine JL.nil ?_
  refine JQ.seq ?_
  refine JC.seq ?_
  refine JC.region ?_
  refine JL.pure rfl (PO.fieldAddr fo188_1 rfl) ?_
  refine JL.ld rfl (LO.loadK 2 (vs := [.int .i64 c.call.kind, str c.call.name, str c.call.to_, .int .i64 c.call.a, .int .i64 c.call.b, str c.call.text]) rfl rfl Tryz.isAgg148 Tryz.sizeOf148 rfl rfl) ?_
  refine JL.op rfl (JO.call [] Tryz.call112 rfl (N_toCall c.call) rfl (fun _ _ => trivial)) ?_
  rintro _ _ ⟨_, ⟨rfl, rfl⟩, rfl⟩
  refine JL.pure rfl (PO.fieldAddr fo179_1 rfl) ?_
  refine JL.op rfl (JO.store 0 (vs := [.int .i64 c.call.kind, str c.call.name, str c.call.to_, .int .i64 c.call.a, .int .i64 c.call.b, str c.call.text]) (cs' := [.int .i64 c.proc, .int .i64 c.call.kind, str c.call.name, str c.call.to_, .int .i64 c.call.a, .int .i64 c.call.b, str c.call.text]) rfl rfl rfl rfl Tryz.sizeOf152 rfl rfl (Nat.le_of_ble_eq_true rfl) rfl) ?_
  rintro _ _ rfl
  refine JL.nil ?_
  refine JQ.seq ?_
  refine JC.seq ?_
  refine JC.region ?_
  refine JL.ld rfl (LO.loadK 0 (vs := [.int .i64 c.proc, .int .i64 c.call.kind, str c.call.name, str c.call.to_, .int .i64 c.call.a, .int .i64 c.call.b, str c.call.text]) rfl rfl Tryz.isAgg179 Tryz.sizeOf179 rfl rfl) ?_
  refine JL.op rfl (JO.store 1 (vs := [.int .i64 c.proc, .int .i64 c.call.kind, str c.call.name, str c.call.to_, .int .i64 c.call.a, .int .i64 c.call.b, str c.call.text]) (cs' := [.int .i64 c.proc, .int .i64 c.call.kind, str c.call.name, str c.call.to_, .int .i64 c.call.a, .int .i64 c.call.b, str c.call.text]) rfl rfl rfl rfl Tryz.sizeOf179 rfl rfl (Nat.le_of_ble_eq_true rfl) rfl) ?_
  rintro _ _ rfl
  refine JL.nil ?_
  refine JQ.seq ?_
  refine JC.ret ?_
  refine Done.one (.inl rfl) rfl (RV.cell1 (LO.loadK 1 (vs := [.int .i64 c.proc, .int .i64 c.call.kind, str c.call.name, str c.call.to_, .int .i64 c.call.a, .int .i64 c.call.b, str c.call.text]) rfl rfl Tryz.isAgg179 Tryz.sizeOf179 rfl rfl) ⟨_, rfl⟩) (List.nil_sublist _) ?_
  exact ⟨rfl, rfl⟩

theorem C_eqStep (a b : SP) :
    Ct Tryz.prog 154 [.agg #[.int .i64 a.proc, .int .i64 a.call.kind, str a.call.name, str a.call.to_, .int .i64 a.call.a, .int .i64 a.call.b, str a.call.text], .agg #[.int .i64 b.proc, .int .i64 b.call.kind, str b.call.name, str b.call.to_, .int .i64 b.call.a, .int .i64 b.call.b, str b.call.text]] [] (fun _ => True) (fun v A' => v = .bool (decide (a = b)) ∧ A' = []) := by
  refine Ct.intro Tryz.func154 rfl Tryz.ntmps154 (Nat.le_of_ble_eq_true rfl) fun w0 hpre => ?_
  refine JC.seq ?_
  refine JC.region ?_
  refine JL.op rfl (JO.box (cs := [.int .i64 a.proc, .int .i64 a.call.kind, str a.call.name, str a.call.to_, .int .i64 a.call.a, .int .i64 a.call.b, str a.call.text]) rfl rfl) ?_
  rintro _ _ ⟨b_1, rfl, rfl⟩
  refine JL.op rfl (JO.box (cs := [.int .i64 b.proc, .int .i64 b.call.kind, str b.call.name, str b.call.to_, .int .i64 b.call.a, .int .i64 b.call.b, str b.call.text]) rfl rfl) ?_
  rintro _ _ ⟨b_2, rfl, rfl⟩
  refine JL.pure rfl (PO.assign (v := .bool false) rfl) ?_
  refine JL.nil ?_
  refine JQ.seq ?_
  refine JC.seq ?_
  refine JC.seq ?_
  refine JC.region ?_
  refine JL.pure rfl (PO.fieldAddr fo179_0 rfl) ?_
  refine JL.ld rfl (LO.load1 1 (v := .int .i64 a.proc) rfl rfl Tryz.isAgg3 rfl) ?_
  refine JL.pure rfl (PO.fieldAddr fo179_0 rfl) ?_
  refine JL.ld rfl (LO.load1 0 (v := .int .i64 b.proc) rfl rfl Tryz.isAgg3 rfl) ?_
  refine JL.pure rfl (PO.neqI rfl rfl) ?_
  refine JL.nil ?_
  refine JQ.seq ?_
  by_cases h_3 : a.proc = b.proc
  · skip
    refine JC.condF (congrArg Value.bool (congrArg Bool.not (decide_eq_true h_3))) ?_
    refine JC.skip ?_
    refine JQ.seq ?_
    refine JC.seq ?_
    refine JC.seq ?_
    refine JC.region ?_
    refine JL.pure rfl (PO.fieldAddr fo179_1 rfl) ?_
    refine JL.ld rfl (LO.loadK 1 (vs := [.int .i64 a.call.kind, str a.call.name, str a.call.to_, .int .i64 a.call.a, .int .i64 a.call.b, str a.call.text]) rfl rfl Tryz.isAgg152 Tryz.sizeOf152 rfl rfl) ?_
    refine JL.pure rfl (PO.fieldAddr fo179_1 rfl) ?_
    refine JL.ld rfl (LO.loadK 0 (vs := [.int .i64 b.call.kind, str b.call.name, str b.call.to_, .int .i64 b.call.a, .int .i64 b.call.b, str b.call.text]) rfl rfl Tryz.isAgg152 Tryz.sizeOf152 rfl rfl) ?_
    refine JL.op rfl (JO.call [] Tryz.call120 rfl (C_eqCall a.call b.call) rfl (fun _ _ => trivial)) ?_
    rintro _ _ ⟨_, ⟨rfl, rfl⟩, rfl⟩
    refine JL.pure rfl (PO.not rfl) ?_
    refine JL.nil ?_
    refine JQ.seq ?_
    by_cases h_4 : a.call = b.call
    · skip
      refine JC.condF (congrArg Value.bool (congrArg Bool.not (decide_eq_true h_4))) ?_
      refine JC.skip ?_
      refine JQ.seq ?_
      refine JC.seq ?_
      refine JC.region ?_
      refine JL.pure rfl (PO.assign (v := .bool true) rfl) ?_
      refine JL.nil ?_
      refine JQ.seq ?_
      refine JC.ret ?_
      refine Done.one (.inl rfl) rfl (RV.tmp (v := .bool true) rfl) (List.nil_sublist _) ?_
      refine ⟨congrArg Value.bool ?_, rfl⟩
      exact (decide_eq_true (by cases a; cases b; simp_all)).symm
    · skip
      refine JC.condT (congrArg Value.bool (congrArg Bool.not (decide_eq_false h_4))) ?_
      refine JC.seq ?_
      refine JC.region ?_
      refine JL.pure rfl (PO.assign (v := .bool false) rfl) ?_
      refine JL.nil ?_
      refine JQ.seq ?_
      refine JC.ret ?_
      refine JQ.thenRet ?_
      refine Done.one (.inl rfl) rfl (RV.tmp (v := .bool false) rfl) (List.nil_sublist _) ?_
      refine ⟨congrArg Value.bool ?_, rfl⟩
      exact (decide_eq_false (fun h_ => by subst h_; simp_all)).symm
  · skip
    refine JC.condT (congrArg Value.bool (congrArg Bool.not (decide_eq_false h_3))) ?_
    refine JC.seq ?_
    refine JC.region ?_
    refine JL.pure rfl (PO.assign (v := .bool false) rfl) ?_
    refine JL.nil ?_
    refine JQ.seq ?_
    refine JC.ret ?_
    refine JQ.thenRet ?_
    refine Done.one (.inl rfl) rfl (RV.tmp (v := .bool false) rfl) (List.nil_sublist _) ?_
    refine ⟨congrArg Value.bool ?_, rfl⟩
    exact (decide_eq_false (fun h_ => by subst h_; simp_all)).symm

theorem C_eqStepS (a b : Option Addr) (c c' : Nat) (s t : List SP) (hn : s.length ≤ 9223372036854775807) :
    Ct Tryz.prog 144 [.slice a s.length c, .slice b t.length c'] [] (fun w => Sees w (.slice a s.length c) 7 s.length (s.flatMap encP) ∧ Sees w (.slice b t.length c') 7 t.length (t.flatMap encP)) (fun r A' => r = .bool (decide (s = t)) ∧ A' = []) := by
  refine Ct.intro Tryz.func144 rfl Tryz.ntmps144 (Nat.le_of_ble_eq_true rfl) fun w0 hpre => ?_
  have hs_a : Sees w0 _ _ _ _ := hpre.1
  have hs_b : Sees w0 _ _ _ _ := hpre.2
  refine JC.seq ?_
  refine JC.region ?_
  refine JL.pure rfl (PO.assign (v := .bool false) rfl) ?_
  refine JL.nil ?_
  refine JQ.seq ?_
  refine JC.seq ?_
  refine JC.seq ?_
  refine JC.region ?_
  refine JL.pure rfl (PO.move (v := .slice a s.length c) rfl) ?_
  refine JL.pure rfl (PO.lenV Tryz.underlying127 rfl) ?_
  refine JL.pure rfl (PO.move (v := .slice b t.length c') rfl) ?_
  refine JL.pure rfl (PO.lenV Tryz.underlying127 rfl) ?_
  refine JL.pure rfl (PO.neqI rfl rfl) ?_
  refine JL.nil ?_
  refine JQ.seq ?_
  by_cases h_1 : ((s.length : Nat) : Int) = ((t.length : Nat) : Int)
  · skip
    have hlen := h_1
    refine JC.condF (congrArg Value.bool (congrArg Bool.not (decide_eq_true h_1))) ?_
    refine JC.skip ?_
    refine JQ.seq ?_
    refine JC.seq ?_
    refine JC.seq ?_
    refine JC.region ?_
    refine JL.pure rfl (PO.assign (v := .int .i64 0) rfl) ?_
    refine JL.nil ?_
    refine JQ.seq ?_
    refine JC.block ?_
    refine JC.loop (fun k_ e_ L_ => ∃ j : Nat, (j ≤ s.length) ∧ (s.take j = t.take j) ∧ (s.length = t.length) ∧ e_ 0 = .slice a s.length c ∧ e_ 1 = .slice b t.length c' ∧ e_ 5 = .int .i64 ((j : Nat) : Int) ∧ L_ = [] ∧ k_ = s.length - j) _ ⟨0, by omega, rfl, by omega, rfl, rfl, rfl, rfl, rfl⟩ ?_
    rintro _ e_2 _ ⟨j, hj, hE, hln, he_3, he_4, he_5, rfl, rfl⟩
    refine JC.seq ?_
    refine JC.seq ?_
    refine JC.region ?_
    refine JL.pure rfl (PO.move (v := .int .i64 ((j : Nat) : Int)) he_5) ?_
    refine JL.pure rfl (PO.move (v := .slice a s.length c) he_3) ?_
    refine JL.pure rfl (PO.lenV Tryz.underlying127 rfl) ?_
    refine JL.pure rfl (PO.lss rfl rfl) ?_
    refine JL.nil ?_
    refine JQ.seq ?_
    by_cases h_6 : ((j : Nat) : Int) < ((s.length : Nat) : Int)
    · skip
      have hlt : j < s.length := by omega
      refine JC.condT (congrArg Value.bool (decide_eq_true h_6)) ?_
      refine JC.skip ?_
      refine JQ.seq ?_
      refine JC.seq ?_
      refine JC.block ?_
      refine JC.seq ?_
      refine JC.regionA [] 1000 mixed (by simp) ?_
      refine JA.takeP 0 rfl (by kernel_rfl) (NP.th (NP.bl (NP.th (NP.th (NP.bl (NP.th NP.body)))))) (by kernel_rfl) (by kernel_rfl) rfl (PO.move (v := .slice a s.length c) he_3) ?_
      refine JA.takeP 1 rfl (by kernel_rfl) (NP.th (NP.bl (NP.th (NP.th (NP.bl (NP.th NP.body)))))) (by kernel_rfl) (by kernel_rfl) rfl (PO.move (v := .int .i64 ((j : Nat) : Int)) he_5) ?_
      obtain ⟨hr_7, hr_7b, -⟩ := sees_some hs_a (by omega)
      refine JA.takeP 2 rfl (by kernel_rfl) (NP.th (NP.bl (NP.th (NP.th (NP.bl (NP.th NP.body)))))) (by kernel_rfl) (by kernel_rfl) rfl (PO.indexAddrV (i := j) Tryz.underlying127 Tryz.sizeOf179 hr_7 hr_7b rfl rfl (by omega)) ?_
      refine JA.take 3 rfl (by kernel_rfl) (NP.th (NP.bl (NP.th (NP.th (NP.bl (NP.th NP.body)))))) (by kernel_rfl) (by kernel_rfl) (by kernel_rfl) rfl (LO.loadSK (vs := [.int .i64 ((s.getD j p0_).proc), .int .i64 ((s.getD j p0_).call.kind), str ((s.getD j p0_).call.name), str ((s.getD j p0_).call.to_), .int .i64 ((s.getD j p0_).call.a), .int .i64 ((s.getD j p0_).call.b), str ((s.getD j p0_).call.text)]) hs_a (fun _ _ => List.not_mem_nil) rfl Tryz.isAgg179 Tryz.sizeOf179 (flat_take encP_len p0_ s j (by omega)) rfl (by decide)) ?_
      refine JA.takeP 4 rfl (by kernel_rfl) (NP.th (NP.bl (NP.th (NP.th (NP.bl (NP.th NP.body)))))) (by kernel_rfl) (by kernel_rfl) rfl (PO.move (v := .slice b t.length c') he_4) ?_
      refine JA.takeP 5 rfl (by kernel_rfl) (NP.th (NP.bl (NP.th (NP.th (NP.bl (NP.th NP.body)))))) (by kernel_rfl) (by kernel_rfl) rfl (PO.move (v := .int .i64 ((j : Nat) : Int)) he_5) ?_
      obtain ⟨hr_8, hr_8b, -⟩ := sees_some hs_b (by omega)
      refine JA.takeP 6 rfl (by kernel_rfl) (NP.th (NP.bl (NP.th (NP.th (NP.bl (NP.th NP.body)))))) (by kernel_rfl) (by kernel_rfl) rfl (PO.indexAddrV (i := j) Tryz.underlying127 Tryz.sizeOf179 hr_8 hr_8b rfl rfl (by omega)) ?_
      refine JA.take 7 rfl (by kernel_rfl) (NP.th (NP.bl (NP.th (NP.th (NP.bl (NP.th NP.body)))))) (by kernel_rfl) (by kernel_rfl) (by kernel_rfl) rfl (LO.loadSK (vs := [.int .i64 ((t.getD j p0_).proc), .int .i64 ((t.getD j p0_).call.kind), str ((t.getD j p0_).call.name), str ((t.getD j p0_).call.to_), .int .i64 ((t.getD j p0_).call.a), .int .i64 ((t.getD j p0_).call.b), str ((t.getD j p0_).call.text)]) hs_b (fun _ _ => List.not_mem_nil) rfl Tryz.isAgg179 Tryz.sizeOf179 (flat_take encP_len p0_ t j (by omega)) rfl (by decide)) ?_
      refine JA.one (i := 8) (by kernel_rfl) ?_
      refine JX.op rfl rfl (JO.call [] Tryz.call154 rfl (C_eqStep (⟨(s.getD j p0_).proc, (s.getD j p0_).call⟩ : SP) (⟨(t.getD j p0_).proc, (t.getD j p0_).call⟩ : SP)) rfl (fun _ _ => trivial)) ?_
      rintro _ _ ⟨_, ⟨rfl, rfl⟩, rfl⟩
      refine ⟨(fun _ h => by cases h), ?_⟩
      refine JA.takeP 9 rfl (by kernel_rfl) (NP.th (NP.bl (NP.th (NP.th (NP.bl (NP.th NP.body)))))) (by kernel_rfl) (by kernel_rfl) rfl (PO.not rfl) ?_
      refine JA.done (by kernel_rfl) ?_
      refine JQ.seq ?_
      by_cases h_9 : (⟨(s.getD j p0_).proc, (s.getD j p0_).call⟩ : SP) = (⟨(t.getD j p0_).proc, (t.getD j p0_).call⟩ : SP)
      · skip
        have heq := h_9
        refine JC.condF (congrArg Value.bool (congrArg Bool.not (decide_eq_true h_9))) ?_
        refine JC.skip ?_
        refine JQ.blockN ?_
        refine JQ.seq ?_
        refine JC.region ?_
        refine JL.pure rfl (PO.move (v := .int .i64 ((j : Nat) : Int)) he_5) ?_
        refine JL.pure rfl (PO.add (c := ((j + 1 : Nat) : Int)) rfl rfl (wr (by omega))) ?_
        refine JL.pure rfl (PO.assign (v := .int .i64 ((j + 1 : Nat) : Int)) rfl) ?_
        refine JL.nil ?_
        refine JQ.again (s.length - (j + 1)) (by omega) ⟨j + 1, by omega, take_succ_eq p0_ hE hlt hln heq, hln, he_3, he_4, rfl, rfl, rfl⟩
      · skip
        have hne := h_9
        refine JC.condT (congrArg Value.bool (congrArg Bool.not (decide_eq_false h_9))) ?_
        refine JC.seq ?_
        refine JC.region ?_
        refine JL.pure rfl (PO.assign (v := .bool false) rfl) ?_
        refine JL.nil ?_
        refine JQ.seq ?_
        refine JC.ret ?_
        refine JQ.blockRet ?_
        refine JQ.thenRet ?_
        refine JQ.thenRet ?_
        refine JQ.blockRet ?_
        refine JQ.thenRet ?_
        refine Done.one (.inl rfl) rfl (RV.tmp (v := .bool false) rfl) (List.nil_sublist _) ?_
        refine ⟨?_, rfl⟩
        rw [decide_eq_false (fun h => hne (by rw [h]))]
    · skip
      refine JC.condF (congrArg Value.bool (decide_eq_false h_6)) ?_
      refine JC.exit ?_
      refine JQ.thenExit ?_
      refine JQ.thenExit ?_
      refine JQ.blockE ?_
      refine JQ.seq ?_
      refine JC.seq ?_
      refine JC.region ?_
      refine JL.pure rfl (PO.assign (v := .bool true) rfl) ?_
      refine JL.nil ?_
      refine JQ.seq ?_
      refine JC.ret ?_
      refine Done.one (.inl rfl) rfl (RV.tmp (v := .bool true) rfl) (List.nil_sublist _) ?_
      refine ⟨?_, rfl⟩
      rw [decide_eq_true (take_all_eq hE (by omega) (by omega))]
  · skip
    have hlen := h_1
    refine JC.condT (congrArg Value.bool (congrArg Bool.not (decide_eq_false h_1))) ?_
    refine JC.seq ?_
    refine JC.region ?_
    refine JL.pure rfl (PO.assign (v := .bool false) rfl) ?_
    refine JL.nil ?_
    refine JQ.seq ?_
    refine JC.ret ?_
    refine JQ.thenRet ?_
    refine Done.one (.inl rfl) rfl (RV.tmp (v := .bool false) rfl) (List.nil_sublist _) ?_
    refine ⟨?_, rfl⟩
    rw [decide_eq_false (fun h => by rw [h] at hlen; omega)]

theorem C_markStepS (a : Option Addr) (c : Nat) (l : List SP) (k : Nat) (h0 : 0 < k) (h1 : k + 7 * l.length ≤ 100000000) :
    Ct Tryz.prog 104 [.slice a l.length c, .int .i64 ((k : Nat) : Int)] [Res.row (.slice a l.length c) 179 7 l.length (l.flatMap encP)] (fun _ => True) (fun v A' => v = .int .i64 ((k + 7 * l.length : Nat) : Int) ∧ A' = [.row (.slice a l.length c) 179 7 l.length ((markG mkP 7 l k).flatMap encP)]) := by
  refine Ct.intro Tryz.func104 rfl Tryz.ntmps104 (Nat.le_of_ble_eq_true rfl) fun w0 hpre => ?_
  refine JC.seq ?_
  refine JC.region ?_
  refine JL.pure rfl (PO.assign (v := .int .i64 0) rfl) ?_
  refine JL.nil ?_
  refine JQ.seq ?_
  refine JC.seq ?_
  refine JC.seq ?_
  refine JC.region ?_
  refine JL.pure rfl (PO.assign (v := .int .i64 0) rfl) ?_
  refine JL.nil ?_
  refine JQ.seq ?_
  refine JC.block ?_
  refine JC.loop (fun k_ e_ L_ => ∃ j : Nat, (j ≤ l.length) ∧ e_ 0 = .slice a l.length c ∧ e_ 1 = .int .i64 ((k + 7 * j : Nat) : Int) ∧ e_ 4 = .int .i64 0 ∧ e_ 5 = .int .i64 ((j : Nat) : Int) ∧ L_ = [Res.row (.slice a l.length c) 179 7 l.length (((markG mkP 7 l k).take j ++ l.drop j).flatMap encP)] ∧ k_ = l.length - j) _ ⟨0, by omega, rfl, rfl, rfl, rfl, rfl, rfl⟩ ?_
  rintro _ e_1 _ ⟨j, hj, he_2, he_3, he_4, he_5, rfl, rfl⟩
  refine JC.seq ?_
  refine JC.seq ?_
  refine JC.region ?_
  refine JL.pure rfl (PO.move (v := .int .i64 ((j : Nat) : Int)) he_5) ?_
  refine JL.pure rfl (PO.move (v := .slice a l.length c) he_2) ?_
  refine JL.pure rfl (PO.lenV Tryz.underlying127 rfl) ?_
  refine JL.pure rfl (PO.lss rfl rfl) ?_
  refine JL.nil ?_
  refine JQ.seq ?_
  by_cases h_6 : ((j : Nat) : Int) < ((l.length : Nat) : Int)
  · skip
    have hlt : j < l.length := by omega
    refine JC.condT (congrArg Value.bool (decide_eq_true h_6)) ?_
    refine JC.skip ?_
    refine JQ.seq ?_
    refine JC.seq ?_
    refine JC.block ?_
    refine JC.seq ?_
    refine JC.region ?_
    refine JL.pure rfl (PO.move (v := .slice a l.length c) he_2) ?_
    refine JL.pure rfl (PO.move (v := .int .i64 ((j : Nat) : Int)) he_5) ?_
    refine JL.pure rfl (PO.move (v := .int .i64 ((k + 7 * j : Nat) : Int)) he_3) ?_
    refine JL.facts fun hst => ?_
    obtain ⟨hr_7, hr_7b, -⟩ := row_some 0 rfl (by omega) hst
    refine JL.pure rfl (PO.indexAddrV (i := j) Tryz.underlying127 Tryz.sizeOf179 hr_7 hr_7b rfl rfl (by omega)) ?_
    refine JL.pure rfl (PO.fieldAddrE fo179_0 hr_7 rfl) ?_
    refine JL.op rfl (JO.storeR 0 (vs := [.int .i64 ((k + 7 * j : Nat) : Int)]) (cs' := (((markG mkP 7 l k).take j ++ l.drop j).set j (⟨((k + 7 * j : Nat) : Int), (((markG mkP 7 l k).take j ++ l.drop j).getD j p0_).call⟩ : SP)).flatMap encP) rfl rfl rfl rfl Tryz.sizeOf3 rfl rfl (by decide) (by rw [flat_length encP_len]; (try rw [List.length_set]); rw [markG_lenj mkP 7 hj]; omega) (flat_set1 encP_len p0_ (f := 0) (y := (⟨((k + 7 * j : Nat) : Int), (((markG mkP 7 l k).take j ++ l.drop j).getD j p0_).call⟩ : SP)) (by rw [markG_lenj mkP 7 hj]; omega) (by decide) rfl)) ?_
    rintro _ _ rfl
    refine JL.nil ?_
    refine JQ.seq ?_
    refine JC.seq ?_
    refine JC.region ?_
    refine JL.pure rfl (PO.move (v := .int .i64 ((k + 7 * j : Nat) : Int)) he_3) ?_
    refine JL.pure rfl (PO.add (c := (((k + 7 * j) + 1 : Nat) : Int)) rfl rfl (wr (by omega))) ?_
    refine JL.pure rfl (PO.assign (v := .int .i64 (((k + 7 * j) + 1 : Nat) : Int)) rfl) ?_
    refine JL.nil ?_
    refine JQ.seq ?_
    refine JC.seq ?_
    refine JC.region ?_
    refine JL.pure rfl (PO.move (v := .slice a l.length c) he_2) ?_
    refine JL.pure rfl (PO.move (v := .int .i64 ((j : Nat) : Int)) he_5) ?_
    refine JL.pure rfl (PO.move (v := .int .i64 (((k + 7 * j) + 1 : Nat) : Int)) rfl) ?_
    refine JL.pure rfl (PO.indexAddrV (i := j) Tryz.underlying127 Tryz.sizeOf179 hr_7 hr_7b rfl rfl (by omega)) ?_
    refine JL.pure rfl (PO.fieldAddrE fo179_1 hr_7 rfl) ?_
    refine JL.pure rfl (PO.fieldAddrE fo152_0 hr_7 rfl) ?_
    refine JL.op rfl (JO.storeR 0 (vs := [.int .i64 (((k + 7 * j) + 1 : Nat) : Int)]) (cs' := (((markG mkP 7 l k).take j ++ l.drop j).set j (⟨((k + 7 * j : Nat) : Int), (⟨(((k + 7 * j) + 1 : Nat) : Int), (((markG mkP 7 l k).take j ++ l.drop j).getD j p0_).call.name, (((markG mkP 7 l k).take j ++ l.drop j).getD j p0_).call.to_, (((markG mkP 7 l k).take j ++ l.drop j).getD j p0_).call.a, (((markG mkP 7 l k).take j ++ l.drop j).getD j p0_).call.b, (((markG mkP 7 l k).take j ++ l.drop j).getD j p0_).call.text⟩ : CL)⟩ : SP)).flatMap encP) rfl rfl rfl rfl Tryz.sizeOf3 rfl rfl (by decide) (by rw [flat_length encP_len]; (try rw [List.length_set]); rw [markG_lenj mkP 7 hj]; omega) (flat_set1s encP_len p0_ (f := 1) (x := (⟨((k + 7 * j : Nat) : Int), (((markG mkP 7 l k).take j ++ l.drop j).getD j p0_).call⟩ : SP)) (y := (⟨((k + 7 * j : Nat) : Int), (⟨(((k + 7 * j) + 1 : Nat) : Int), (((markG mkP 7 l k).take j ++ l.drop j).getD j p0_).call.name, (((markG mkP 7 l k).take j ++ l.drop j).getD j p0_).call.to_, (((markG mkP 7 l k).take j ++ l.drop j).getD j p0_).call.a, (((markG mkP 7 l k).take j ++ l.drop j).getD j p0_).call.b, (((markG mkP 7 l k).take j ++ l.drop j).getD j p0_).call.text⟩ : CL)⟩ : SP)) (by rw [markG_lenj mkP 7 hj]; omega) (by decide) rfl)) ?_
    rintro _ _ rfl
    refine JL.nil ?_
    refine JQ.seq ?_
    refine JC.seq ?_
    refine JC.region ?_
    refine JL.pure rfl (PO.move (v := .int .i64 (((k + 7 * j) + 1 : Nat) : Int)) rfl) ?_
    refine JL.pure rfl (PO.add (c := ((((k + 7 * j) + 1) + 1 : Nat) : Int)) rfl rfl (wr (by omega))) ?_
    refine JL.pure rfl (PO.assign (v := .int .i64 ((((k + 7 * j) + 1) + 1 : Nat) : Int)) rfl) ?_
    refine JL.nil ?_
    refine JQ.seq ?_
    refine JC.seq ?_
    refine JC.region ?_
    refine JL.pure rfl (PO.move (v := .slice a l.length c) he_2) ?_
    refine JL.pure rfl (PO.move (v := .int .i64 ((j : Nat) : Int)) he_5) ?_
    refine JL.pure rfl (PO.move (v := .int .i64 ((((k + 7 * j) + 1) + 1 : Nat) : Int)) rfl) ?_
    refine JL.op rfl (JO.call [] Tryz.call102 rfl (C_markText (((k + 7 * j) + 1) + 1) (by omega) (by omega)) rfl (fun _ _ => trivial)) ?_
    rintro _ _ ⟨_, ⟨rfl, rfl⟩, rfl⟩
    refine JL.pure rfl (PO.indexAddrV (i := j) Tryz.underlying127 Tryz.sizeOf179 hr_7 hr_7b rfl rfl (by omega)) ?_
    refine JL.pure rfl (PO.fieldAddrE fo179_1 hr_7 rfl) ?_
    refine JL.pure rfl (PO.fieldAddrE fo152_1 hr_7 rfl) ?_
    refine JL.op rfl (JO.storeR 0 (vs := [str (mt (((k + 7 * j) + 1) + 1))]) (cs' := (((markG mkP 7 l k).take j ++ l.drop j).set j (⟨((k + 7 * j : Nat) : Int), (⟨(((k + 7 * j) + 1 : Nat) : Int), mt (((k + 7 * j) + 1) + 1), (((markG mkP 7 l k).take j ++ l.drop j).getD j p0_).call.to_, (((markG mkP 7 l k).take j ++ l.drop j).getD j p0_).call.a, (((markG mkP 7 l k).take j ++ l.drop j).getD j p0_).call.b, (((markG mkP 7 l k).take j ++ l.drop j).getD j p0_).call.text⟩ : CL)⟩ : SP)).flatMap encP) rfl rfl rfl rfl Tryz.sizeOf9 rfl rfl (by decide) (by rw [flat_length encP_len]; (try rw [List.length_set]); rw [markG_lenj mkP 7 hj]; omega) (flat_set1s encP_len p0_ (f := 2) (x := (⟨((k + 7 * j : Nat) : Int), (⟨(((k + 7 * j) + 1 : Nat) : Int), (((markG mkP 7 l k).take j ++ l.drop j).getD j p0_).call.name, (((markG mkP 7 l k).take j ++ l.drop j).getD j p0_).call.to_, (((markG mkP 7 l k).take j ++ l.drop j).getD j p0_).call.a, (((markG mkP 7 l k).take j ++ l.drop j).getD j p0_).call.b, (((markG mkP 7 l k).take j ++ l.drop j).getD j p0_).call.text⟩ : CL)⟩ : SP)) (y := (⟨((k + 7 * j : Nat) : Int), (⟨(((k + 7 * j) + 1 : Nat) : Int), mt (((k + 7 * j) + 1) + 1), (((markG mkP 7 l k).take j ++ l.drop j).getD j p0_).call.to_, (((markG mkP 7 l k).take j ++ l.drop j).getD j p0_).call.a, (((markG mkP 7 l k).take j ++ l.drop j).getD j p0_).call.b, (((markG mkP 7 l k).take j ++ l.drop j).getD j p0_).call.text⟩ : CL)⟩ : SP)) (by rw [markG_lenj mkP 7 hj]; omega) (by decide) rfl)) ?_
    rintro _ _ rfl
    refine JL.nil ?_
    refine JQ.seq ?_
    refine JC.seq ?_
    refine JC.region ?_
    refine JL.pure rfl (PO.move (v := .int .i64 ((((k + 7 * j) + 1) + 1 : Nat) : Int)) rfl) ?_
    refine JL.pure rfl (PO.add (c := (((((k + 7 * j) + 1) + 1) + 1 : Nat) : Int)) rfl rfl (wr (by omega))) ?_
    refine JL.pure rfl (PO.assign (v := .int .i64 (((((k + 7 * j) + 1) + 1) + 1 : Nat) : Int)) rfl) ?_
    refine JL.nil ?_
    refine JQ.seq ?_
    refine JC.seq ?_
    refine JC.region ?_
    refine JL.pure rfl (PO.move (v := .slice a l.length c) he_2) ?_
    refine JL.pure rfl (PO.move (v := .int .i64 ((j : Nat) : Int)) he_5) ?_
    refine JL.pure rfl (PO.move (v := .int .i64 (((((k + 7 * j) + 1) + 1) + 1 : Nat) : Int)) rfl) ?_
    refine JL.op rfl (JO.call [] Tryz.call102 rfl (C_markText ((((k + 7 * j) + 1) + 1) + 1) (by omega) (by omega)) rfl (fun _ _ => trivial)) ?_
    rintro _ _ ⟨_, ⟨rfl, rfl⟩, rfl⟩
    refine JL.pure rfl (PO.indexAddrV (i := j) Tryz.underlying127 Tryz.sizeOf179 hr_7 hr_7b rfl rfl (by omega)) ?_
    refine JL.pure rfl (PO.fieldAddrE fo179_1 hr_7 rfl) ?_
    refine JL.pure rfl (PO.fieldAddrE fo152_2 hr_7 rfl) ?_
    refine JL.op rfl (JO.storeR 0 (vs := [str (mt ((((k + 7 * j) + 1) + 1) + 1))]) (cs' := (((markG mkP 7 l k).take j ++ l.drop j).set j (⟨((k + 7 * j : Nat) : Int), (⟨(((k + 7 * j) + 1 : Nat) : Int), mt (((k + 7 * j) + 1) + 1), mt ((((k + 7 * j) + 1) + 1) + 1), (((markG mkP 7 l k).take j ++ l.drop j).getD j p0_).call.a, (((markG mkP 7 l k).take j ++ l.drop j).getD j p0_).call.b, (((markG mkP 7 l k).take j ++ l.drop j).getD j p0_).call.text⟩ : CL)⟩ : SP)).flatMap encP) rfl rfl rfl rfl Tryz.sizeOf9 rfl rfl (by decide) (by rw [flat_length encP_len]; (try rw [List.length_set]); rw [markG_lenj mkP 7 hj]; omega) (flat_set1s encP_len p0_ (f := 3) (x := (⟨((k + 7 * j : Nat) : Int), (⟨(((k + 7 * j) + 1 : Nat) : Int), mt (((k + 7 * j) + 1) + 1), (((markG mkP 7 l k).take j ++ l.drop j).getD j p0_).call.to_, (((markG mkP 7 l k).take j ++ l.drop j).getD j p0_).call.a, (((markG mkP 7 l k).take j ++ l.drop j).getD j p0_).call.b, (((markG mkP 7 l k).take j ++ l.drop j).getD j p0_).call.text⟩ : CL)⟩ : SP)) (y := (⟨((k + 7 * j : Nat) : Int), (⟨(((k + 7 * j) + 1 : Nat) : Int), mt (((k + 7 * j) + 1) + 1), mt ((((k + 7 * j) + 1) + 1) + 1), (((markG mkP 7 l k).take j ++ l.drop j).getD j p0_).call.a, (((markG mkP 7 l k).take j ++ l.drop j).getD j p0_).call.b, (((markG mkP 7 l k).take j ++ l.drop j).getD j p0_).call.text⟩ : CL)⟩ : SP)) (by rw [markG_lenj mkP 7 hj]; omega) (by decide) rfl)) ?_
    rintro _ _ rfl
    refine JL.nil ?_
    refine JQ.seq ?_
    refine JC.seq ?_
    refine JC.region ?_
    refine JL.pure rfl (PO.move (v := .int .i64 (((((k + 7 * j) + 1) + 1) + 1 : Nat) : Int)) rfl) ?_
    refine JL.pure rfl (PO.add (c := ((((((k + 7 * j) + 1) + 1) + 1) + 1 : Nat) : Int)) rfl rfl (wr (by omega))) ?_
    refine JL.pure rfl (PO.assign (v := .int .i64 ((((((k + 7 * j) + 1) + 1) + 1) + 1 : Nat) : Int)) rfl) ?_
    refine JL.nil ?_
    refine JQ.seq ?_
    refine JC.seq ?_
    refine JC.region ?_
    refine JL.pure rfl (PO.move (v := .slice a l.length c) he_2) ?_
    refine JL.pure rfl (PO.move (v := .int .i64 ((j : Nat) : Int)) he_5) ?_
    refine JL.pure rfl (PO.move (v := .int .i64 ((((((k + 7 * j) + 1) + 1) + 1) + 1 : Nat) : Int)) rfl) ?_
    refine JL.pure rfl (PO.indexAddrV (i := j) Tryz.underlying127 Tryz.sizeOf179 hr_7 hr_7b rfl rfl (by omega)) ?_
    refine JL.pure rfl (PO.fieldAddrE fo179_1 hr_7 rfl) ?_
    refine JL.pure rfl (PO.fieldAddrE fo152_3 hr_7 rfl) ?_
    refine JL.op rfl (JO.storeR 0 (vs := [.int .i64 ((((((k + 7 * j) + 1) + 1) + 1) + 1 : Nat) : Int)]) (cs' := (((markG mkP 7 l k).take j ++ l.drop j).set j (⟨((k + 7 * j : Nat) : Int), (⟨(((k + 7 * j) + 1 : Nat) : Int), mt (((k + 7 * j) + 1) + 1), mt ((((k + 7 * j) + 1) + 1) + 1), ((((((k + 7 * j) + 1) + 1) + 1) + 1 : Nat) : Int), (((markG mkP 7 l k).take j ++ l.drop j).getD j p0_).call.b, (((markG mkP 7 l k).take j ++ l.drop j).getD j p0_).call.text⟩ : CL)⟩ : SP)).flatMap encP) rfl rfl rfl rfl Tryz.sizeOf3 rfl rfl (by decide) (by rw [flat_length encP_len]; (try rw [List.length_set]); rw [markG_lenj mkP 7 hj]; omega) (flat_set1s encP_len p0_ (f := 4) (x := (⟨((k + 7 * j : Nat) : Int), (⟨(((k + 7 * j) + 1 : Nat) : Int), mt (((k + 7 * j) + 1) + 1), mt ((((k + 7 * j) + 1) + 1) + 1), (((markG mkP 7 l k).take j ++ l.drop j).getD j p0_).call.a, (((markG mkP 7 l k).take j ++ l.drop j).getD j p0_).call.b, (((markG mkP 7 l k).take j ++ l.drop j).getD j p0_).call.text⟩ : CL)⟩ : SP)) (y := (⟨((k + 7 * j : Nat) : Int), (⟨(((k + 7 * j) + 1 : Nat) : Int), mt (((k + 7 * j) + 1) + 1), mt ((((k + 7 * j) + 1) + 1) + 1), ((((((k + 7 * j) + 1) + 1) + 1) + 1 : Nat) : Int), (((markG mkP 7 l k).take j ++ l.drop j).getD j p0_).call.b, (((markG mkP 7 l k).take j ++ l.drop j).getD j p0_).call.text⟩ : CL)⟩ : SP)) (by rw [markG_lenj mkP 7 hj]; omega) (by decide) rfl)) ?_
    rintro _ _ rfl
    refine JL.nil ?_
    refine JQ.seq ?_
    refine JC.seq ?_
    refine JC.region ?_
    refine JL.pure rfl (PO.move (v := .int .i64 ((((((k + 7 * j) + 1) + 1) + 1) + 1 : Nat) : Int)) rfl) ?_
    refine JL.pure rfl (PO.add (c := (((((((k + 7 * j) + 1) + 1) + 1) + 1) + 1 : Nat) : Int)) rfl rfl (wr (by omega))) ?_
    refine JL.pure rfl (PO.assign (v := .int .i64 (((((((k + 7 * j) + 1) + 1) + 1) + 1) + 1 : Nat) : Int)) rfl) ?_
    refine JL.nil ?_
    refine JQ.seq ?_
    refine JC.seq ?_
    refine JC.region ?_
    refine JL.pure rfl (PO.move (v := .slice a l.length c) he_2) ?_
    refine JL.pure rfl (PO.move (v := .int .i64 ((j : Nat) : Int)) he_5) ?_
    refine JL.pure rfl (PO.move (v := .int .i64 (((((((k + 7 * j) + 1) + 1) + 1) + 1) + 1 : Nat) : Int)) rfl) ?_
    refine JL.pure rfl (PO.indexAddrV (i := j) Tryz.underlying127 Tryz.sizeOf179 hr_7 hr_7b rfl rfl (by omega)) ?_
    refine JL.pure rfl (PO.fieldAddrE fo179_1 hr_7 rfl) ?_
    refine JL.pure rfl (PO.fieldAddrE fo152_4 hr_7 rfl) ?_
    refine JL.op rfl (JO.storeR 0 (vs := [.int .i64 (((((((k + 7 * j) + 1) + 1) + 1) + 1) + 1 : Nat) : Int)]) (cs' := (((markG mkP 7 l k).take j ++ l.drop j).set j (⟨((k + 7 * j : Nat) : Int), (⟨(((k + 7 * j) + 1 : Nat) : Int), mt (((k + 7 * j) + 1) + 1), mt ((((k + 7 * j) + 1) + 1) + 1), ((((((k + 7 * j) + 1) + 1) + 1) + 1 : Nat) : Int), (((((((k + 7 * j) + 1) + 1) + 1) + 1) + 1 : Nat) : Int), (((markG mkP 7 l k).take j ++ l.drop j).getD j p0_).call.text⟩ : CL)⟩ : SP)).flatMap encP) rfl rfl rfl rfl Tryz.sizeOf3 rfl rfl (by decide) (by rw [flat_length encP_len]; (try rw [List.length_set]); rw [markG_lenj mkP 7 hj]; omega) (flat_set1s encP_len p0_ (f := 5) (x := (⟨((k + 7 * j : Nat) : Int), (⟨(((k + 7 * j) + 1 : Nat) : Int), mt (((k + 7 * j) + 1) + 1), mt ((((k + 7 * j) + 1) + 1) + 1), ((((((k + 7 * j) + 1) + 1) + 1) + 1 : Nat) : Int), (((markG mkP 7 l k).take j ++ l.drop j).getD j p0_).call.b, (((markG mkP 7 l k).take j ++ l.drop j).getD j p0_).call.text⟩ : CL)⟩ : SP)) (y := (⟨((k + 7 * j : Nat) : Int), (⟨(((k + 7 * j) + 1 : Nat) : Int), mt (((k + 7 * j) + 1) + 1), mt ((((k + 7 * j) + 1) + 1) + 1), ((((((k + 7 * j) + 1) + 1) + 1) + 1 : Nat) : Int), (((((((k + 7 * j) + 1) + 1) + 1) + 1) + 1 : Nat) : Int), (((markG mkP 7 l k).take j ++ l.drop j).getD j p0_).call.text⟩ : CL)⟩ : SP)) (by rw [markG_lenj mkP 7 hj]; omega) (by decide) rfl)) ?_
    rintro _ _ rfl
    refine JL.nil ?_
    refine JQ.seq ?_
    refine JC.seq ?_
    refine JC.region ?_
    refine JL.pure rfl (PO.move (v := .int .i64 (((((((k + 7 * j) + 1) + 1) + 1) + 1) + 1 : Nat) : Int)) rfl) ?_
    refine JL.pure rfl (PO.add (c := ((((((((k + 7 * j) + 1) + 1) + 1) + 1) + 1) + 1 : Nat) : Int)) rfl rfl (wr (by omega))) ?_
    refine JL.pure rfl (PO.assign (v := .int .i64 ((((((((k + 7 * j) + 1) + 1) + 1) + 1) + 1) + 1 : Nat) : Int)) rfl) ?_
    refine JL.nil ?_
    refine JQ.seq ?_
    refine JC.seq ?_
    refine JC.region ?_
    refine JL.pure rfl (PO.move (v := .slice a l.length c) he_2) ?_
    refine JL.pure rfl (PO.move (v := .int .i64 ((j : Nat) : Int)) he_5) ?_
    refine JL.pure rfl (PO.move (v := .int .i64 ((((((((k + 7 * j) + 1) + 1) + 1) + 1) + 1) + 1 : Nat) : Int)) rfl) ?_
    refine JL.op rfl (JO.call [] Tryz.call102 rfl (C_markText (((((((k + 7 * j) + 1) + 1) + 1) + 1) + 1) + 1) (by omega) (by omega)) rfl (fun _ _ => trivial)) ?_
    rintro _ _ ⟨_, ⟨rfl, rfl⟩, rfl⟩
    refine JL.pure rfl (PO.indexAddrV (i := j) Tryz.underlying127 Tryz.sizeOf179 hr_7 hr_7b rfl rfl (by omega)) ?_
    refine JL.pure rfl (PO.fieldAddrE fo179_1 hr_7 rfl) ?_
    refine JL.pure rfl (PO.fieldAddrE fo152_5 hr_7 rfl) ?_
    refine JL.op rfl (JO.storeR 0 (vs := [str (mt (((((((k + 7 * j) + 1) + 1) + 1) + 1) + 1) + 1))]) (cs' := (((markG mkP 7 l k).take j ++ l.drop j).set j (⟨((k + 7 * j : Nat) : Int), (⟨(((k + 7 * j) + 1 : Nat) : Int), mt (((k + 7 * j) + 1) + 1), mt ((((k + 7 * j) + 1) + 1) + 1), ((((((k + 7 * j) + 1) + 1) + 1) + 1 : Nat) : Int), (((((((k + 7 * j) + 1) + 1) + 1) + 1) + 1 : Nat) : Int), mt (((((((k + 7 * j) + 1) + 1) + 1) + 1) + 1) + 1)⟩ : CL)⟩ : SP)).flatMap encP) rfl rfl rfl rfl Tryz.sizeOf9 rfl rfl (by decide) (by rw [flat_length encP_len]; (try rw [List.length_set]); rw [markG_lenj mkP 7 hj]; omega) (flat_set1s encP_len p0_ (f := 6) (x := (⟨((k + 7 * j : Nat) : Int), (⟨(((k + 7 * j) + 1 : Nat) : Int), mt (((k + 7 * j) + 1) + 1), mt ((((k + 7 * j) + 1) + 1) + 1), ((((((k + 7 * j) + 1) + 1) + 1) + 1 : Nat) : Int), (((((((k + 7 * j) + 1) + 1) + 1) + 1) + 1 : Nat) : Int), (((markG mkP 7 l k).take j ++ l.drop j).getD j p0_).call.text⟩ : CL)⟩ : SP)) (y := (⟨((k + 7 * j : Nat) : Int), (⟨(((k + 7 * j) + 1 : Nat) : Int), mt (((k + 7 * j) + 1) + 1), mt ((((k + 7 * j) + 1) + 1) + 1), ((((((k + 7 * j) + 1) + 1) + 1) + 1 : Nat) : Int), (((((((k + 7 * j) + 1) + 1) + 1) + 1) + 1 : Nat) : Int), mt (((((((k + 7 * j) + 1) + 1) + 1) + 1) + 1) + 1)⟩ : CL)⟩ : SP)) (by rw [markG_lenj mkP 7 hj]; omega) (by decide) rfl)) ?_
    rintro _ _ rfl
    refine JL.nil ?_
    refine JQ.seq ?_
    refine JC.region ?_
    refine JL.pure rfl (PO.move (v := .int .i64 ((((((((k + 7 * j) + 1) + 1) + 1) + 1) + 1) + 1 : Nat) : Int)) rfl) ?_
    refine JL.pure rfl (PO.add (c := (((((((((k + 7 * j) + 1) + 1) + 1) + 1) + 1) + 1) + 1 : Nat) : Int)) rfl rfl (wr (by omega))) ?_
    refine JL.pure rfl (PO.assign (v := .int .i64 (((((((((k + 7 * j) + 1) + 1) + 1) + 1) + 1) + 1) + 1 : Nat) : Int)) rfl) ?_
    refine JL.nil ?_
    refine JQ.blockN ?_
    refine JQ.seq ?_
    refine JC.region ?_
    refine JL.pure rfl (PO.move (v := .int .i64 ((j : Nat) : Int)) he_5) ?_
    refine JL.pure rfl (PO.add (c := ((j + 1 : Nat) : Int)) rfl rfl (wr (by omega))) ?_
    refine JL.pure rfl (PO.assign (v := .int .i64 ((j + 1 : Nat) : Int)) rfl) ?_
    refine JL.nil ?_
    refine JQ.again (l.length - (j + 1)) (by omega) ⟨j + 1, by omega, he_2, rfl, he_4, rfl, (by rw [← markG_step mkP 7 hlt]; rfl), rfl⟩
  · skip
    refine JC.condF (congrArg Value.bool (decide_eq_false h_6)) ?_
    refine JC.exit ?_
    refine JQ.thenExit ?_
    refine JQ.thenExit ?_
    refine JQ.blockE ?_
    refine JQ.seq ?_
    refine JC.seq ?_
    refine JC.region ?_
    refine JL.pure rfl (PO.move (v := .int .i64 ((k + 7 * j : Nat) : Int)) he_3) ?_
    refine JL.pure rfl (PO.assign (v := .int .i64 ((k + 7 * j : Nat) : Int)) rfl) ?_
    refine JL.nil ?_
    refine JQ.seq ?_
    refine JC.ret ?_
    refine Done.one (.inl rfl) rfl (RV.tmp (v := .int .i64 ((k + 7 * j : Nat) : Int)) rfl) (List.Sublist.refl _) ?_
    exact ⟨by rw [show j = l.length by omega], by rw [show j = l.length by omega, List.drop_of_length_le (Nat.le_refl _), List.append_nil, List.take_of_length_le (by rw [markG_len]; exact Nat.le_refl _)]⟩

theorem C_heldStepS (a : Option Addr) (c : Nat) (l : List SP) (k : Nat) (h0 : 0 < k) (h1 : k + 7 * l.length ≤ 100000000) :
    Ct Tryz.prog 109 [.slice a l.length c, .int .i64 ((k : Nat) : Int)] [] (fun w => Sees w (.slice a l.length c) 7 l.length ((markG mkP 7 l k).flatMap encP)) (fun v A' => v = .int .i64 ((k + 7 * l.length : Nat) : Int) ∧ A' = []) := by
  refine Ct.intro Tryz.func109 rfl Tryz.ntmps109 (Nat.le_of_ble_eq_true rfl) fun w0 hpre => ?_
  have hs_a : Sees w0 _ _ _ _ := hpre
  refine JC.seq ?_
  refine JC.region ?_
  refine JL.pure rfl (PO.assign (v := .int .i64 0) rfl) ?_
  refine JL.nil ?_
  refine JQ.seq ?_
  refine JC.seq ?_
  refine JC.seq ?_
  refine JC.region ?_
  refine JL.pure rfl (PO.assign (v := .int .i64 0) rfl) ?_
  refine JL.nil ?_
  refine JQ.seq ?_
  refine JC.block ?_
  refine JC.loop (fun k_ e_ L_ => ∃ j : Nat, (j ≤ l.length) ∧ e_ 0 = .slice a l.length c ∧ e_ 1 = .int .i64 ((k + 7 * j : Nat) : Int) ∧ e_ 5 = .int .i64 ((j : Nat) : Int) ∧ L_ = [] ∧ k_ = l.length - j) _ ⟨0, by omega, rfl, rfl, rfl, rfl, rfl⟩ ?_
  rintro _ e_1 _ ⟨j, hj, he_2, he_3, he_4, rfl, rfl⟩
  refine JC.seq ?_
  refine JC.seq ?_
  refine JC.region ?_
  refine JL.pure rfl (PO.move (v := .int .i64 ((j : Nat) : Int)) he_4) ?_
  refine JL.pure rfl (PO.move (v := .slice a l.length c) he_2) ?_
  refine JL.pure rfl (PO.lenV Tryz.underlying127 rfl) ?_
  refine JL.pure rfl (PO.lss rfl rfl) ?_
  refine JL.nil ?_
  refine JQ.seq ?_
  by_cases h_5 : ((j : Nat) : Int) < ((l.length : Nat) : Int)
  · skip
    have hlt : j < l.length := by omega
    refine JC.condT (congrArg Value.bool (decide_eq_true h_5)) ?_
    refine JC.skip ?_
    refine JQ.seq ?_
    refine JC.seq ?_
    refine JC.block ?_
    refine JC.seq ?_
    refine JC.seq ?_
    refine JC.region ?_
    refine JL.pure rfl (PO.move (v := .slice a l.length c) he_2) ?_
    refine JL.pure rfl (PO.move (v := .int .i64 ((j : Nat) : Int)) he_4) ?_
    obtain ⟨hr_6, hr_6b, -⟩ := sees_some hs_a (by omega)
    refine JL.pure rfl (PO.indexAddrV (i := j) Tryz.underlying127 Tryz.sizeOf179 hr_6 hr_6b rfl rfl (by omega)) ?_
    refine JL.pure rfl (PO.fieldAddrE fo179_0 hr_6 rfl) ?_
    refine JL.ld rfl (LO.loadS1 (v := .int .i64 (((markG mkP 7 l k).getD j p0_).proc)) hs_a (fun _ _ => List.not_mem_nil) rfl Tryz.isAgg3 (flat_at encP_len p0_ (markG mkP 7 l k) j 0 (by rw [markG_len]; omega) (by decide))) ?_
    refine JL.pure rfl (PO.move (v := .int .i64 ((k + 7 * j : Nat) : Int)) he_3) ?_
    refine JL.pure rfl (PO.neqI rfl rfl) ?_
    refine JL.nil ?_
    refine JQ.seq ?_
    by_cases h_7 : (((markG mkP 7 l k).getD j p0_).proc) = ((k + 7 * j : Nat) : Int)
    · skip
      refine JC.condF (congrArg Value.bool (congrArg Bool.not (decide_eq_true h_7))) ?_
      refine JC.skip ?_
      refine JQ.seq ?_
      refine JC.seq ?_
      refine JC.region ?_
      refine JL.pure rfl (PO.move (v := .int .i64 ((k + 7 * j : Nat) : Int)) he_3) ?_
      refine JL.pure rfl (PO.add (c := (((k + 7 * j) + 1 : Nat) : Int)) rfl rfl (wr (by omega))) ?_
      refine JL.pure rfl (PO.assign (v := .int .i64 (((k + 7 * j) + 1 : Nat) : Int)) rfl) ?_
      refine JL.nil ?_
      refine JQ.seq ?_
      refine JC.seq ?_
      refine JC.seq ?_
      refine JC.region ?_
      refine JL.pure rfl (PO.move (v := .slice a l.length c) he_2) ?_
      refine JL.pure rfl (PO.move (v := .int .i64 ((j : Nat) : Int)) he_4) ?_
      refine JL.pure rfl (PO.indexAddrV (i := j) Tryz.underlying127 Tryz.sizeOf179 hr_6 hr_6b rfl rfl (by omega)) ?_
      refine JL.pure rfl (PO.fieldAddrE fo179_1 hr_6 rfl) ?_
      refine JL.pure rfl (PO.fieldAddrE fo152_0 hr_6 rfl) ?_
      refine JL.ld rfl (LO.loadS1 (v := .int .i64 (((markG mkP 7 l k).getD j p0_).call.kind)) hs_a (fun _ _ => List.not_mem_nil) rfl Tryz.isAgg3 (flat_at encP_len p0_ (markG mkP 7 l k) j 1 (by rw [markG_len]; omega) (by decide))) ?_
      refine JL.pure rfl (PO.move (v := .int .i64 (((k + 7 * j) + 1 : Nat) : Int)) rfl) ?_
      refine JL.pure rfl (PO.neqI rfl rfl) ?_
      refine JL.nil ?_
      refine JQ.seq ?_
      by_cases h_8 : (((markG mkP 7 l k).getD j p0_).call.kind) = (((k + 7 * j) + 1 : Nat) : Int)
      · skip
        refine JC.condF (congrArg Value.bool (congrArg Bool.not (decide_eq_true h_8))) ?_
        refine JC.skip ?_
        refine JQ.seq ?_
        refine JC.seq ?_
        refine JC.region ?_
        refine JL.pure rfl (PO.move (v := .int .i64 (((k + 7 * j) + 1 : Nat) : Int)) rfl) ?_
        refine JL.pure rfl (PO.add (c := ((((k + 7 * j) + 1) + 1 : Nat) : Int)) rfl rfl (wr (by omega))) ?_
        refine JL.pure rfl (PO.assign (v := .int .i64 ((((k + 7 * j) + 1) + 1 : Nat) : Int)) rfl) ?_
        refine JL.nil ?_
        refine JQ.seq ?_
        refine JC.seq ?_
        refine JC.seq ?_
        refine JC.regionA [] 8 mixed (by simp) ?_
        refine JA.takeP 0 rfl (by kernel_rfl) (NP.th (NP.th (NP.bl (NP.th (NP.th (NP.bl (NP.th NP.body))))))) (by kernel_rfl) (by kernel_rfl) rfl (PO.move (v := .slice a l.length c) he_2) ?_
        refine JA.takeP 1 rfl (by kernel_rfl) (NP.th (NP.th (NP.bl (NP.th (NP.th (NP.bl (NP.th NP.body))))))) (by kernel_rfl) (by kernel_rfl) rfl (PO.move (v := .int .i64 ((j : Nat) : Int)) he_4) ?_
        refine JA.takeP 2 rfl (by kernel_rfl) (NP.th (NP.th (NP.bl (NP.th (NP.th (NP.bl (NP.th NP.body))))))) (by kernel_rfl) (by kernel_rfl) rfl (PO.indexAddrV (i := j) Tryz.underlying127 Tryz.sizeOf179 hr_6 hr_6b rfl rfl (by omega)) ?_
        refine JA.takeP 3 rfl (by kernel_rfl) (NP.th (NP.th (NP.bl (NP.th (NP.th (NP.bl (NP.th NP.body))))))) (by kernel_rfl) (by kernel_rfl) rfl (PO.fieldAddrE fo179_1 hr_6 rfl) ?_
        refine JA.takeP 4 rfl (by kernel_rfl) (NP.th (NP.th (NP.bl (NP.th (NP.th (NP.bl (NP.th NP.body))))))) (by kernel_rfl) (by kernel_rfl) rfl (PO.fieldAddrE fo152_1 hr_6 rfl) ?_
        refine JA.take 5 rfl (by kernel_rfl) (NP.th (NP.th (NP.bl (NP.th (NP.th (NP.bl (NP.th NP.body))))))) (by kernel_rfl) (by kernel_rfl) (by kernel_rfl) rfl (LO.loadS1 (v := str (((markG mkP 7 l k).getD j p0_).call.name)) hs_a (fun _ _ => List.not_mem_nil) rfl Tryz.isAgg9 (flat_at encP_len p0_ (markG mkP 7 l k) j 2 (by rw [markG_len]; omega) (by decide))) ?_
        refine JA.takeP 6 rfl (by kernel_rfl) (NP.th (NP.th (NP.bl (NP.th (NP.th (NP.bl (NP.th NP.body))))))) (by kernel_rfl) (by kernel_rfl) rfl (PO.move (v := .int .i64 ((((k + 7 * j) + 1) + 1 : Nat) : Int)) rfl) ?_
        refine JA.one (i := 7) (by kernel_rfl) ?_
        refine JX.op rfl rfl (JO.call [] Tryz.call102 rfl (C_markText (((k + 7 * j) + 1) + 1) (by omega) (by omega)) rfl (fun _ _ => trivial)) ?_
        rintro _ _ ⟨_, ⟨rfl, rfl⟩, rfl⟩
        refine ⟨(fun _ h => by cases h), ?_⟩
        refine JA.takeP 8 rfl (by kernel_rfl) (NP.th (NP.th (NP.bl (NP.th (NP.th (NP.bl (NP.th NP.body))))))) (by kernel_rfl) (by kernel_rfl) rfl (PO.neqS rfl rfl) ?_
        refine JA.done (by kernel_rfl) ?_
        refine JQ.seq ?_
        by_cases h_9 : (((markG mkP 7 l k).getD j p0_).call.name) = (mt (((k + 7 * j) + 1) + 1))
        · skip
          refine JC.condF (congrArg Value.bool (congrArg Bool.not (decide_eq_true h_9))) ?_
          refine JC.skip ?_
          refine JQ.seq ?_
          refine JC.seq ?_
          refine JC.region ?_
          refine JL.pure rfl (PO.move (v := .int .i64 ((((k + 7 * j) + 1) + 1 : Nat) : Int)) rfl) ?_
          refine JL.pure rfl (PO.add (c := (((((k + 7 * j) + 1) + 1) + 1 : Nat) : Int)) rfl rfl (wr (by omega))) ?_
          refine JL.pure rfl (PO.assign (v := .int .i64 (((((k + 7 * j) + 1) + 1) + 1 : Nat) : Int)) rfl) ?_
          refine JL.nil ?_
          refine JQ.seq ?_
          refine JC.seq ?_
          refine JC.seq ?_
          refine JC.regionA [] 8 mixed (by simp) ?_
          refine JA.takeP 0 rfl (by kernel_rfl) (NP.th (NP.th (NP.bl (NP.th (NP.th (NP.bl (NP.th NP.body))))))) (by kernel_rfl) (by kernel_rfl) rfl (PO.move (v := .slice a l.length c) he_2) ?_
          refine JA.takeP 1 rfl (by kernel_rfl) (NP.th (NP.th (NP.bl (NP.th (NP.th (NP.bl (NP.th NP.body))))))) (by kernel_rfl) (by kernel_rfl) rfl (PO.move (v := .int .i64 ((j : Nat) : Int)) he_4) ?_
          refine JA.takeP 2 rfl (by kernel_rfl) (NP.th (NP.th (NP.bl (NP.th (NP.th (NP.bl (NP.th NP.body))))))) (by kernel_rfl) (by kernel_rfl) rfl (PO.indexAddrV (i := j) Tryz.underlying127 Tryz.sizeOf179 hr_6 hr_6b rfl rfl (by omega)) ?_
          refine JA.takeP 3 rfl (by kernel_rfl) (NP.th (NP.th (NP.bl (NP.th (NP.th (NP.bl (NP.th NP.body))))))) (by kernel_rfl) (by kernel_rfl) rfl (PO.fieldAddrE fo179_1 hr_6 rfl) ?_
          refine JA.takeP 4 rfl (by kernel_rfl) (NP.th (NP.th (NP.bl (NP.th (NP.th (NP.bl (NP.th NP.body))))))) (by kernel_rfl) (by kernel_rfl) rfl (PO.fieldAddrE fo152_2 hr_6 rfl) ?_
          refine JA.take 5 rfl (by kernel_rfl) (NP.th (NP.th (NP.bl (NP.th (NP.th (NP.bl (NP.th NP.body))))))) (by kernel_rfl) (by kernel_rfl) (by kernel_rfl) rfl (LO.loadS1 (v := str (((markG mkP 7 l k).getD j p0_).call.to_)) hs_a (fun _ _ => List.not_mem_nil) rfl Tryz.isAgg9 (flat_at encP_len p0_ (markG mkP 7 l k) j 3 (by rw [markG_len]; omega) (by decide))) ?_
          refine JA.takeP 6 rfl (by kernel_rfl) (NP.th (NP.th (NP.bl (NP.th (NP.th (NP.bl (NP.th NP.body))))))) (by kernel_rfl) (by kernel_rfl) rfl (PO.move (v := .int .i64 (((((k + 7 * j) + 1) + 1) + 1 : Nat) : Int)) rfl) ?_
          refine JA.one (i := 7) (by kernel_rfl) ?_
          refine JX.op rfl rfl (JO.call [] Tryz.call102 rfl (C_markText ((((k + 7 * j) + 1) + 1) + 1) (by omega) (by omega)) rfl (fun _ _ => trivial)) ?_
          rintro _ _ ⟨_, ⟨rfl, rfl⟩, rfl⟩
          refine ⟨(fun _ h => by cases h), ?_⟩
          refine JA.takeP 8 rfl (by kernel_rfl) (NP.th (NP.th (NP.bl (NP.th (NP.th (NP.bl (NP.th NP.body))))))) (by kernel_rfl) (by kernel_rfl) rfl (PO.neqS rfl rfl) ?_
          refine JA.done (by kernel_rfl) ?_
          refine JQ.seq ?_
          by_cases h_10 : (((markG mkP 7 l k).getD j p0_).call.to_) = (mt ((((k + 7 * j) + 1) + 1) + 1))
          · skip
            refine JC.condF (congrArg Value.bool (congrArg Bool.not (decide_eq_true h_10))) ?_
            refine JC.skip ?_
            refine JQ.seq ?_
            refine JC.seq ?_
            refine JC.region ?_
            refine JL.pure rfl (PO.move (v := .int .i64 (((((k + 7 * j) + 1) + 1) + 1 : Nat) : Int)) rfl) ?_
            refine JL.pure rfl (PO.add (c := ((((((k + 7 * j) + 1) + 1) + 1) + 1 : Nat) : Int)) rfl rfl (wr (by omega))) ?_
            refine JL.pure rfl (PO.assign (v := .int .i64 ((((((k + 7 * j) + 1) + 1) + 1) + 1 : Nat) : Int)) rfl) ?_
            refine JL.nil ?_
            refine JQ.seq ?_
            refine JC.seq ?_
            refine JC.seq ?_
            refine JC.region ?_
            refine JL.pure rfl (PO.move (v := .slice a l.length c) he_2) ?_
            refine JL.pure rfl (PO.move (v := .int .i64 ((j : Nat) : Int)) he_4) ?_
            refine JL.pure rfl (PO.indexAddrV (i := j) Tryz.underlying127 Tryz.sizeOf179 hr_6 hr_6b rfl rfl (by omega)) ?_
            refine JL.pure rfl (PO.fieldAddrE fo179_1 hr_6 rfl) ?_
            refine JL.pure rfl (PO.fieldAddrE fo152_3 hr_6 rfl) ?_
            refine JL.ld rfl (LO.loadS1 (v := .int .i64 (((markG mkP 7 l k).getD j p0_).call.a)) hs_a (fun _ _ => List.not_mem_nil) rfl Tryz.isAgg3 (flat_at encP_len p0_ (markG mkP 7 l k) j 4 (by rw [markG_len]; omega) (by decide))) ?_
            refine JL.pure rfl (PO.move (v := .int .i64 ((((((k + 7 * j) + 1) + 1) + 1) + 1 : Nat) : Int)) rfl) ?_
            refine JL.pure rfl (PO.neqI rfl rfl) ?_
            refine JL.nil ?_
            refine JQ.seq ?_
            by_cases h_11 : (((markG mkP 7 l k).getD j p0_).call.a) = ((((((k + 7 * j) + 1) + 1) + 1) + 1 : Nat) : Int)
            · skip
              refine JC.condF (congrArg Value.bool (congrArg Bool.not (decide_eq_true h_11))) ?_
              refine JC.skip ?_
              refine JQ.seq ?_
              refine JC.seq ?_
              refine JC.region ?_
              refine JL.pure rfl (PO.move (v := .int .i64 ((((((k + 7 * j) + 1) + 1) + 1) + 1 : Nat) : Int)) rfl) ?_
              refine JL.pure rfl (PO.add (c := (((((((k + 7 * j) + 1) + 1) + 1) + 1) + 1 : Nat) : Int)) rfl rfl (wr (by omega))) ?_
              refine JL.pure rfl (PO.assign (v := .int .i64 (((((((k + 7 * j) + 1) + 1) + 1) + 1) + 1 : Nat) : Int)) rfl) ?_
              refine JL.nil ?_
              refine JQ.seq ?_
              refine JC.seq ?_
              refine JC.seq ?_
              refine JC.region ?_
              refine JL.pure rfl (PO.move (v := .slice a l.length c) he_2) ?_
              refine JL.pure rfl (PO.move (v := .int .i64 ((j : Nat) : Int)) he_4) ?_
              refine JL.pure rfl (PO.indexAddrV (i := j) Tryz.underlying127 Tryz.sizeOf179 hr_6 hr_6b rfl rfl (by omega)) ?_
              refine JL.pure rfl (PO.fieldAddrE fo179_1 hr_6 rfl) ?_
              refine JL.pure rfl (PO.fieldAddrE fo152_4 hr_6 rfl) ?_
              refine JL.ld rfl (LO.loadS1 (v := .int .i64 (((markG mkP 7 l k).getD j p0_).call.b)) hs_a (fun _ _ => List.not_mem_nil) rfl Tryz.isAgg3 (flat_at encP_len p0_ (markG mkP 7 l k) j 5 (by rw [markG_len]; omega) (by decide))) ?_
              refine JL.pure rfl (PO.move (v := .int .i64 (((((((k + 7 * j) + 1) + 1) + 1) + 1) + 1 : Nat) : Int)) rfl) ?_
              refine JL.pure rfl (PO.neqI rfl rfl) ?_
              refine JL.nil ?_
              refine JQ.seq ?_
              by_cases h_12 : (((markG mkP 7 l k).getD j p0_).call.b) = (((((((k + 7 * j) + 1) + 1) + 1) + 1) + 1 : Nat) : Int)
              · skip
                refine JC.condF (congrArg Value.bool (congrArg Bool.not (decide_eq_true h_12))) ?_
                refine JC.skip ?_
                refine JQ.seq ?_
                refine JC.seq ?_
                refine JC.region ?_
                refine JL.pure rfl (PO.move (v := .int .i64 (((((((k + 7 * j) + 1) + 1) + 1) + 1) + 1 : Nat) : Int)) rfl) ?_
                refine JL.pure rfl (PO.add (c := ((((((((k + 7 * j) + 1) + 1) + 1) + 1) + 1) + 1 : Nat) : Int)) rfl rfl (wr (by omega))) ?_
                refine JL.pure rfl (PO.assign (v := .int .i64 ((((((((k + 7 * j) + 1) + 1) + 1) + 1) + 1) + 1 : Nat) : Int)) rfl) ?_
                refine JL.nil ?_
                refine JQ.seq ?_
                refine JC.seq ?_
                refine JC.seq ?_
                refine JC.regionA [] 8 mixed (by simp) ?_
                refine JA.takeP 0 rfl (by kernel_rfl) (NP.th (NP.th (NP.bl (NP.th (NP.th (NP.bl (NP.th NP.body))))))) (by kernel_rfl) (by kernel_rfl) rfl (PO.move (v := .slice a l.length c) he_2) ?_
                refine JA.takeP 1 rfl (by kernel_rfl) (NP.th (NP.th (NP.bl (NP.th (NP.th (NP.bl (NP.th NP.body))))))) (by kernel_rfl) (by kernel_rfl) rfl (PO.move (v := .int .i64 ((j : Nat) : Int)) he_4) ?_
                refine JA.takeP 2 rfl (by kernel_rfl) (NP.th (NP.th (NP.bl (NP.th (NP.th (NP.bl (NP.th NP.body))))))) (by kernel_rfl) (by kernel_rfl) rfl (PO.indexAddrV (i := j) Tryz.underlying127 Tryz.sizeOf179 hr_6 hr_6b rfl rfl (by omega)) ?_
                refine JA.takeP 3 rfl (by kernel_rfl) (NP.th (NP.th (NP.bl (NP.th (NP.th (NP.bl (NP.th NP.body))))))) (by kernel_rfl) (by kernel_rfl) rfl (PO.fieldAddrE fo179_1 hr_6 rfl) ?_
                refine JA.takeP 4 rfl (by kernel_rfl) (NP.th (NP.th (NP.bl (NP.th (NP.th (NP.bl (NP.th NP.body))))))) (by kernel_rfl) (by kernel_rfl) rfl (PO.fieldAddrE fo152_5 hr_6 rfl) ?_
                refine JA.take 5 rfl (by kernel_rfl) (NP.th (NP.th (NP.bl (NP.th (NP.th (NP.bl (NP.th NP.body))))))) (by kernel_rfl) (by kernel_rfl) (by kernel_rfl) rfl (LO.loadS1 (v := str (((markG mkP 7 l k).getD j p0_).call.text)) hs_a (fun _ _ => List.not_mem_nil) rfl Tryz.isAgg9 (flat_at encP_len p0_ (markG mkP 7 l k) j 6 (by rw [markG_len]; omega) (by decide))) ?_
                refine JA.takeP 6 rfl (by kernel_rfl) (NP.th (NP.th (NP.bl (NP.th (NP.th (NP.bl (NP.th NP.body))))))) (by kernel_rfl) (by kernel_rfl) rfl (PO.move (v := .int .i64 ((((((((k + 7 * j) + 1) + 1) + 1) + 1) + 1) + 1 : Nat) : Int)) rfl) ?_
                refine JA.one (i := 7) (by kernel_rfl) ?_
                refine JX.op rfl rfl (JO.call [] Tryz.call102 rfl (C_markText (((((((k + 7 * j) + 1) + 1) + 1) + 1) + 1) + 1) (by omega) (by omega)) rfl (fun _ _ => trivial)) ?_
                rintro _ _ ⟨_, ⟨rfl, rfl⟩, rfl⟩
                refine ⟨(fun _ h => by cases h), ?_⟩
                refine JA.takeP 8 rfl (by kernel_rfl) (NP.th (NP.th (NP.bl (NP.th (NP.th (NP.bl (NP.th NP.body))))))) (by kernel_rfl) (by kernel_rfl) rfl (PO.neqS rfl rfl) ?_
                refine JA.done (by kernel_rfl) ?_
                refine JQ.seq ?_
                by_cases h_13 : (((markG mkP 7 l k).getD j p0_).call.text) = (mt (((((((k + 7 * j) + 1) + 1) + 1) + 1) + 1) + 1))
                · skip
                  refine JC.condF (congrArg Value.bool (congrArg Bool.not (decide_eq_true h_13))) ?_
                  refine JC.skip ?_
                  refine JQ.seq ?_
                  refine JC.region ?_
                  refine JL.pure rfl (PO.move (v := .int .i64 ((((((((k + 7 * j) + 1) + 1) + 1) + 1) + 1) + 1 : Nat) : Int)) rfl) ?_
                  refine JL.pure rfl (PO.add (c := (((((((((k + 7 * j) + 1) + 1) + 1) + 1) + 1) + 1) + 1 : Nat) : Int)) rfl rfl (wr (by omega))) ?_
                  refine JL.pure rfl (PO.assign (v := .int .i64 (((((((((k + 7 * j) + 1) + 1) + 1) + 1) + 1) + 1) + 1 : Nat) : Int)) rfl) ?_
                  refine JL.nil ?_
                  refine JQ.blockN ?_
                  refine JQ.seq ?_
                  refine JC.region ?_
                  refine JL.pure rfl (PO.move (v := .int .i64 ((j : Nat) : Int)) he_4) ?_
                  refine JL.pure rfl (PO.add (c := ((j + 1 : Nat) : Int)) rfl rfl (wr (by omega))) ?_
                  refine JL.pure rfl (PO.assign (v := .int .i64 ((j + 1 : Nat) : Int)) rfl) ?_
                  refine JL.nil ?_
                  refine JQ.again (l.length - (j + 1)) (by omega) ⟨j + 1, by omega, he_2, rfl, rfl, rfl, rfl⟩
                · skip
                  exfalso; rw [markG_get mkP 7 p0_ l k j hlt] at h_13; first | omega | exact h_13 rfl
              · skip
                exfalso; rw [markG_get mkP 7 p0_ l k j hlt] at h_12; first | omega | exact h_12 rfl
            · skip
              exfalso; rw [markG_get mkP 7 p0_ l k j hlt] at h_11; first | omega | exact h_11 rfl
          · skip
            exfalso; rw [markG_get mkP 7 p0_ l k j hlt] at h_10; first | omega | exact h_10 rfl
        · skip
          exfalso; rw [markG_get mkP 7 p0_ l k j hlt] at h_9; first | omega | exact h_9 rfl
      · skip
        exfalso; rw [markG_get mkP 7 p0_ l k j hlt] at h_8; first | omega | exact h_8 rfl
    · skip
      exfalso; rw [markG_get mkP 7 p0_ l k j hlt] at h_7; first | omega | exact h_7 rfl
  · skip
    refine JC.condF (congrArg Value.bool (decide_eq_false h_5)) ?_
    refine JC.exit ?_
    refine JQ.thenExit ?_
    refine JQ.thenExit ?_
    refine JQ.blockE ?_
    refine JQ.seq ?_
    refine JC.seq ?_
    refine JC.region ?_
    refine JL.pure rfl (PO.move (v := .int .i64 ((k + 7 * j : Nat) : Int)) he_3) ?_
    refine JL.pure rfl (PO.assign (v := .int .i64 ((k + 7 * j : Nat) : Int)) rfl) ?_
    refine JL.nil ?_
    refine JQ.seq ?_
    refine JC.ret ?_
    refine Done.one (.inl rfl) rfl (RV.tmp (v := .int .i64 ((k + 7 * j : Nat) : Int)) rfl) (List.nil_sublist _) ?_
    exact ⟨by rw [show j = l.length by omega], rfl⟩

end Go.Proofs.YtkmpmjficoohkaaGreat
