/-
  The laws' own helpers for access sets and machines (part 6): comparisons, marks, what is held.
-/
import Derived.Test.YtkmpmjficoohkaaGreatS05MARK
set_option linter.unusedSimpArgs false
set_option linter.unusedVariables false
set_option linter.unnecessarySimpa false
namespace Go.Proofs.YtkmpmjficoohkaaGreat
open Go Go.RowKit
attribute [local irreducible] JL JC JQ JO LO PO JA JX Ct

theorem heldS_pos : ∀ (l : List Str) (k : Nat), heldS l k = -1 ∨ (k : Int) ≤ heldS l k
  | [], k => .inr (Int.le_refl _)
  | x :: l, k => by
    have := heldS_pos l (k + 1)
    unfold heldS
    split <;> omega
theorem heldC_pos : ∀ (l : List Cell) (k : Nat), heldC l k = -1 ∨ (k : Int) ≤ heldC l k
  | [], k => .inr (Int.le_refl _)
  | x :: l, k => by
    have := heldC_pos l (k + 2)
    unfold heldC
    split
    · split <;> omega
    · omega
def heldT (r w : List Str) (k : Int) : Int := if heldS r k.toNat < 0 then -1 else if heldS w (heldS r k.toNat).toNat < 0 then -1 else heldS w (heldS r k.toNat).toNat
def heldM (s : List Cell) (r w : List Str) (k : Int) : Int := if heldC s k.toNat < 0 then -1 else if heldT r w (heldC s k.toNat) < 0 then -1 else heldT r w (heldC s k.toNat)
theorem heldT_mark (r w : List Str) (k : Nat) : heldT (markS r k) (markS w (k + r.length)) k = ((k + r.length + w.length : Nat) : Int) := by
  have h1 := heldS_mark r k
  have h2 := heldS_mark w (k + r.length)
  unfold heldT
  rw [Int.toNat_natCast, h1, Int.toNat_natCast, h2, if_neg (by omega), if_neg (by omega)]
theorem heldM_mark (s : List Cell) (r w : List Str) (k : Nat) : heldM (markC s k) (markS r (k + 2 * s.length)) (markS w (k + 2 * s.length + r.length)) k = ((k + 2 * s.length + r.length + w.length : Nat) : Int) := by
  have h1 := heldC_mark s k
  have h2 := heldT_mark r w (k + 2 * s.length)
  unfold heldM
  rw [Int.toNat_natCast, h1, h2, if_neg (by omega), if_neg (by omega)]
theorem C_heldStringSI (a : Option Addr) (n c : Nat) (s : List Str) (k : Int) (hn : s.length = n) (h0 : 0 < k) (h1 : k + s.length ≤ 100000000) :
    Ct Tryz.prog 53 [.slice a n c, .int .i64 k] [] (fun w => Sees w (.slice a n c) 1 n (s.map str)) (fun v A' => v = .int .i64 (heldS s k.toNat) ∧ A' = []) := by
  have := C_heldStringS a n c s k.toNat hn (by omega) (by omega)
  rw [Int.toNat_of_nonneg (by omega)] at this
  subst hn
  exact this
theorem C_heldCellSI (a : Option Addr) (n c : Nat) (s : List Cell) (k : Int) (hn : s.length = n) (h0 : 0 < k) (h1 : k + 2 * s.length ≤ 100000000) :
    Ct Tryz.prog 49 [.slice a n c, .int .i64 k] [] (fun w => Sees w (.slice a n c) 2 n (s.flatMap encC)) (fun v A' => v = .int .i64 (heldC s k.toNat) ∧ A' = []) := by
  have := C_heldCellS a n c s k.toNat hn (by omega) (by omega)
  rw [Int.toNat_of_nonneg (by omega)] at this
  subst hn
  exact this

theorem C_eqTouch (a1 a2 b1 b2 : Option Addr) (c1 c2 d1 d2 : Nat) (r w r' w' : List Str) (h1 : r.length ≤ 9223372036854775807) (h2 : w.length ≤ 9223372036854775807) :
    Ct Tryz.prog 68 [.agg #[.slice a1 r.length c1, .slice a2 w.length c2], .agg #[.slice b1 r'.length d1, .slice b2 w'.length d2]] [] (fun w_ => Sees w_ (.slice a1 r.length c1) 1 r.length (r.map str) ∧ Sees w_ (.slice a2 w.length c2) 1 w.length (w.map str) ∧ Sees w_ (.slice b1 r'.length d1) 1 r'.length (r'.map str) ∧ Sees w_ (.slice b2 w'.length d2) 1 w'.length (w'.map str)) (fun v A' => v = .bool (decide (r = r') && decide (w = w')) ∧ A' = []) := by
  refine Ct.intro Tryz.func68 rfl Tryz.ntmps68 (Nat.le_of_ble_eq_true rfl) fun w0 hpre => ?_
  have hs_a1 : Sees w0 _ _ _ _ := hpre.1
  have hs_a2 : Sees w0 _ _ _ _ := hpre.2.1
  have hs_b1 : Sees w0 _ _ _ _ := hpre.2.2.1
  have hs_b2 : Sees w0 _ _ _ _ := hpre.2.2.2
  refine JC.seq ?_
  refine JC.region ?_
  refine JL.op rfl (JO.box (cs := [.slice a1 r.length c1, .slice a2 w.length c2]) rfl rfl) ?_
  rintro _ _ ⟨b_1, rfl, rfl⟩
  refine JL.op rfl (JO.box (cs := [.slice b1 r'.length d1, .slice b2 w'.length d2]) rfl rfl) ?_
  rintro _ _ ⟨b_2, rfl, rfl⟩
  refine JL.pure rfl (PO.assign (v := .bool false) rfl) ?_
  refine JL.nil ?_
  refine JQ.seq ?_
  refine JC.seq ?_
  refine JC.seq ?_
  refine JC.region ?_
  refine JL.pure rfl (PO.fieldAddr fo59_0 rfl) ?_
  refine JL.ld rfl (LO.load1 1 (v := .slice a1 r.length c1) rfl rfl Tryz.isAgg30 rfl) ?_
  refine JL.pure rfl (PO.fieldAddr fo59_0 rfl) ?_
  refine JL.ld rfl (LO.load1 0 (v := .slice b1 r'.length d1) rfl rfl Tryz.isAgg30 rfl) ?_
  refine JL.op rfl (JO.call [] Tryz.call43 rfl (C_eqStringS a1 b1 c1 d1 r r' (by omega)) rfl (fun w hw => ⟨hw.seeOut_ hs_a1 (fun _ _ => List.not_mem_nil), hw.seeOut_ hs_b1 (fun _ _ => List.not_mem_nil)⟩)) ?_
  rintro _ _ ⟨_, ⟨rfl, rfl⟩, rfl⟩
  refine JL.pure rfl (PO.not rfl) ?_
  refine JL.nil ?_
  refine JQ.seq ?_
  by_cases h_3 : r = r'
  · skip
    refine JC.condF (congrArg Value.bool (congrArg Bool.not (decide_eq_true h_3))) ?_
    refine JC.skip ?_
    refine JQ.seq ?_
    refine JC.seq ?_
    refine JC.seq ?_
    refine JC.region ?_
    refine JL.pure rfl (PO.fieldAddr fo59_1 rfl) ?_
    refine JL.ld rfl (LO.load1 1 (v := .slice a2 w.length c2) rfl rfl Tryz.isAgg30 rfl) ?_
    refine JL.pure rfl (PO.fieldAddr fo59_1 rfl) ?_
    refine JL.ld rfl (LO.load1 0 (v := .slice b2 w'.length d2) rfl rfl Tryz.isAgg30 rfl) ?_
    refine JL.op rfl (JO.call [] Tryz.call43 rfl (C_eqStringS a2 b2 c2 d2 w w' (by omega)) rfl (fun w hw => ⟨hw.seeOut_ hs_a2 (fun _ _ => List.not_mem_nil), hw.seeOut_ hs_b2 (fun _ _ => List.not_mem_nil)⟩)) ?_
    rintro _ _ ⟨_, ⟨rfl, rfl⟩, rfl⟩
    refine JL.pure rfl (PO.not rfl) ?_
    refine JL.nil ?_
    refine JQ.seq ?_
    by_cases h_4 : w = w'
    · skip
      refine JC.condF (congrArg Value.bool (congrArg Bool.not (decide_eq_true h_4))) ?_
      refine JC.skip ?_
      refine JQ.seq ?_
      refine JC.seq ?_
      refine JC.region ?_
      refine JL.pure rfl (PO.assign (v := .bool true) rfl) ?_
      refine JL.nil ?_
      refine JQ.seq ?_
      refine JC.ret ?_
      refine Done.one (.inl rfl) rfl (RV.tmp (v := .bool true) rfl) (List.nil_sublist _) ?_
      refine ⟨?_, rfl⟩
      simp_all
    · skip
      refine JC.condT (congrArg Value.bool (congrArg Bool.not (decide_eq_false h_4))) ?_
      refine JC.seq ?_
      refine JC.region ?_
      refine JL.pure rfl (PO.assign (v := .bool false) rfl) ?_
      refine JL.nil ?_
      refine JQ.seq ?_
      refine JC.ret ?_
      refine JQ.thenRet ?_
      refine Done.one (.inl rfl) rfl (RV.tmp (v := .bool false) rfl) (List.nil_sublist _) ?_
      refine ⟨?_, rfl⟩
      simp_all
  · skip
    refine JC.condT (congrArg Value.bool (congrArg Bool.not (decide_eq_false h_3))) ?_
    refine JC.seq ?_
    refine JC.region ?_
    refine JL.pure rfl (PO.assign (v := .bool false) rfl) ?_
    refine JL.nil ?_
    refine JQ.seq ?_
    refine JC.ret ?_
    refine JQ.thenRet ?_
    refine Done.one (.inl rfl) rfl (RV.tmp (v := .bool false) rfl) (List.nil_sublist _) ?_
    refine ⟨?_, rfl⟩
    simp_all


theorem C_markTouch (a1 a2 : Option Addr) (c1 c2 : Nat) (r w : List Str) (k : Nat) (h0 : 0 < k) (h1 : k + r.length + w.length ≤ 100000000) :
    Ct Tryz.prog 72 [.agg #[.slice a1 r.length c1, .slice a2 w.length c2], .int .i64 ((k : Nat) : Int)] [Res.row (.slice a1 r.length c1) 9 1 r.length (r.map str), Res.row (.slice a2 w.length c2) 9 1 w.length (w.map str)] (fun _ => True) (fun v A' => v = .int .i64 ((k + r.length + w.length : Nat) : Int) ∧ A' = [.row (.slice a1 r.length c1) 9 1 r.length ((markS r k).map str), .row (.slice a2 w.length c2) 9 1 w.length ((markS w (k + r.length)).map str)]) := by
  refine Ct.intro Tryz.func72 rfl Tryz.ntmps72 (Nat.le_of_ble_eq_true rfl) fun w0 hpre => ?_
  refine JC.seq ?_
  refine JC.region ?_
  refine JL.op rfl (JO.box (cs := [.slice a1 r.length c1, .slice a2 w.length c2]) rfl rfl) ?_
  rintro _ _ ⟨b_1, rfl, rfl⟩
  refine JL.pure rfl (PO.assign (v := .int .i64 0) rfl) ?_
  refine JL.nil ?_
  refine JQ.seq ?_
  refine JC.seq ?_
  refine JC.region ?_
  refine JL.pure rfl (PO.fieldAddr fo59_0 rfl) ?_
  refine JL.ld rfl (LO.load1 0 (v := .slice a1 r.length c1) rfl rfl Tryz.isAgg30 rfl) ?_
  refine JL.pure rfl (PO.move (v := .int .i64 ((k : Nat) : Int)) rfl) ?_
  refine JL.op rfl (JO.call [1] Tryz.call48 rfl (C_markStringS a1 c1 r k (by omega) (by omega)) rfl (fun _ _ => trivial)) ?_
  rintro _ _ ⟨_, ⟨rfl, rfl⟩, rfl⟩
  refine JL.pure rfl (PO.assign (v := .int .i64 ((k + r.length : Nat) : Int)) rfl) ?_
  refine JL.nil ?_
  refine JQ.seq ?_
  refine JC.seq ?_
  refine JC.region ?_
  refine JL.pure rfl (PO.fieldAddr fo59_1 rfl) ?_
  refine JL.ld rfl (LO.load1 1 (v := .slice a2 w.length c2) rfl rfl Tryz.isAgg30 rfl) ?_
  refine JL.pure rfl (PO.move (v := .int .i64 ((k + r.length : Nat) : Int)) rfl) ?_
  refine JL.op rfl (JO.call [2] Tryz.call48 rfl (C_markStringS a2 c2 w (k + r.length) (by omega) (by omega)) rfl (fun _ _ => trivial)) ?_
  rintro _ _ ⟨_, ⟨rfl, rfl⟩, rfl⟩
  refine JL.pure rfl (PO.assign (v := .int .i64 ((k + r.length + w.length : Nat) : Int)) rfl) ?_
  refine JL.nil ?_
  refine JQ.seq ?_
  refine JC.seq ?_
  refine JC.region ?_
  refine JL.pure rfl (PO.move (v := .int .i64 ((k + r.length + w.length : Nat) : Int)) rfl) ?_
  refine JL.pure rfl (PO.assign (v := .int .i64 ((k + r.length + w.length : Nat) : Int)) rfl) ?_
  refine JL.nil ?_
  refine JQ.seq ?_
  refine JC.ret ?_
  refine JQ.perm (pick_perm [1, 0] (A := [Res.row (.slice a1 r.length c1) 9 1 r.length ((markS r k).map str), Res.row (.slice a2 w.length c2) 9 1 w.length ((markS w (k + r.length)).map str)]) (F := [bk b_1 59 [.slice a1 r.length c1, .slice a2 w.length c2]]) rfl).symm ?_
  refine Done.one (.inl rfl) rfl (RV.tmp (v := .int .i64 ((k + r.length + w.length : Nat) : Int)) rfl) (List.sublist_append_left [Res.row (.slice a1 r.length c1) 9 1 r.length ((markS r k).map str), Res.row (.slice a2 w.length c2) 9 1 w.length ((markS w (k + r.length)).map str)] [bk b_1 59 [.slice a1 r.length c1, .slice a2 w.length c2]]) ?_
  exact ⟨rfl, rfl⟩



theorem heldT_pos (r w : List Str) (k : Int) (h0 : 0 ≤ k) : (heldT r w k = -1 ∨ k ≤ heldT r w k) ∧ heldT r w k ≤ k + r.length + w.length := by
  have h1 := heldS_pos r k.toNat
  have h2 := heldS_lo r k.toNat
  have h3 := heldS_pos w (heldS r k.toNat).toNat
  have h4 := heldS_lo w (heldS r k.toNat).toNat
  unfold heldT
  split
  · omega
  · split <;> omega


end Go.Proofs.YtkmpmjficoohkaaGreat
