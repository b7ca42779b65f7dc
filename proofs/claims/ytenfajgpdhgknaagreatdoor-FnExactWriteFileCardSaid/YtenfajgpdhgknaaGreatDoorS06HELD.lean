/-
  The laws' own helpers for access sets and machines (part 6): comparisons, marks, what is held.
-/
import Derived.Test.YtenfajgpdhgknaaGreatDoorS05MARK
set_option linter.unusedSimpArgs false
set_option linter.unusedVariables false
set_option linter.unnecessarySimpa false
namespace Go.Proofs.YtenfajgpdhgknaaGreatDoor
open Go Go.RowKit
attribute [local irreducible] JL JC JQ JO LO PO JA JX Ct

theorem heldS_pos : ∀ (l : List Str) (k : Nat), heldS l k = -1 ∨ (k : Int) ≤ heldS l k
  | [], k => .inr (Int.le_refl _)
  | x :: l, k => by
    have := heldS_pos l (k + 1)
    unfold heldS
    split <;> omega
theorem heldC_pos : ∀ (l : List Cell) (k : Nat), heldC l k = -1 ∨ (k : Int) ≤ heldC l k
  | [], k => .inr (Int.le_refl _)
  | x :: l, k => by
    have := heldC_pos l (k + 2)
    unfold heldC
    split
    · split <;> omega
    · omega
def heldT (r w : List Str) (k : Int) : Int := if heldS r k.toNat < 0 then -1 else if heldS w (heldS r k.toNat).toNat < 0 then -1 else heldS w (heldS r k.toNat).toNat
def heldM (s : List Cell) (r w : List Str) (k : Int) : Int := if heldC s k.toNat < 0 then -1 else if heldT r w (heldC s k.toNat) < 0 then -1 else heldT r w (heldC s k.toNat)
theorem heldT_mark (r w : List Str) (k : Nat) : heldT (markS r k) (markS w (k + r.length)) k = ((k + r.length + w.length : Nat) : Int) := by
  have h1 := heldS_mark r k
  have h2 := heldS_mark w (k + r.length)
  unfold heldT
  rw [Int.toNat_natCast, h1, Int.toNat_natCast, h2, if_neg (by omega), if_neg (by omega)]
theorem heldM_mark (s : List Cell) (r w : List Str) (k : Nat) : heldM (markC s k) (markS r (k + 2 * s.length)) (markS w (k + 2 * s.length + r.length)) k = ((k + 2 * s.length + r.length + w.length : Nat) : Int) := by
  have h1 := heldC_mark s k
  have h2 := heldT_mark r w (k + 2 * s.length)
  unfold heldM
  rw [Int.toNat_natCast, h1, h2, if_neg (by omega), if_neg (by omega)]
theorem C_heldStringSI (a : Option Addr) (n c : Nat) (s : List Str) (k : Int) (hn : s.length = n) (h0 : 0 < k) (h1 : k + s.length ≤ 100000000) :
    Ct Tryz.prog 246 [.slice a n c, .int .i64 k] [] (fun w => Sees w (.slice a n c) 1 n (s.map str)) (fun v A' => v = .int .i64 (heldS s k.toNat) ∧ A' = []) := by
  have := C_heldStringS a n c s k.toNat hn (by omega) (by omega)
  rw [Int.toNat_of_nonneg (by omega)] at this
  subst hn
  exact this
theorem C_heldCellSI (a : Option Addr) (n c : Nat) (s : List Cell) (k : Int) (hn : s.length = n) (h0 : 0 < k) (h1 : k + 2 * s.length ≤ 100000000) :
    Ct Tryz.prog 133 [.slice a n c, .int .i64 k] [] (fun w => Sees w (.slice a n c) 2 n (s.flatMap encC)) (fun v A' => v = .int .i64 (heldC s k.toNat) ∧ A' = []) := by
  have := C_heldCellS a n c s k.toNat hn (by omega) (by omega)
  rw [Int.toNat_of_nonneg (by omega)] at this
  subst hn
  exact this

theorem C_eqTouch (a1 a2 b1 b2 : Option Addr) (c1 c2 d1 d2 : Nat) (r w r' w' : List Str) (h1 : r.length ≤ 9223372036854775807) (h2 : w.length ≤ 9223372036854775807) :
    Ct Tryz.prog 130 [.agg #[.slice a1 r.length c1, .slice a2 w.length c2], .agg #[.slice b1 r'.length d1, .slice b2 w'.length d2]] [] (fun w_ => Sees w_ (.slice a1 r.length c1) 1 r.length (r.map str) ∧ Sees w_ (.slice a2 w.length c2) 1 w.length (w.map str) ∧ Sees w_ (.slice b1 r'.length d1) 1 r'.length (r'.map str) ∧ Sees w_ (.slice b2 w'.length d2) 1 w'.length (w'.map str)) (fun v A' => v = .bool (decide (r = r') && decide (w = w')) ∧ A' = []) := by
  refine Ct.intro Tryz.func130 rfl Tryz.ntmps130 (Nat.le_of_ble_eq_true rfl) fun w0 hpre => ?_
  have hs_a1 : Sees w0 _ _ _ _ := hpre.1
  have hs_a2 : Sees w0 _ _ _ _ := hpre.2.1
  have hs_b1 : Sees w0 _ _ _ _ := hpre.2.2.1
  have hs_b2 : Sees w0 _ _ _ _ := hpre.2.2.2
  refine JC.seq ?_
  refine JC.region ?_
  refine JL.op rfl (JO.box (cs := [.slice a1 r.length c1, .slice a2 w.length c2]) rfl rfl) ?_
  rintro _ _ ⟨b_1, rfl, rfl⟩
  refine JL.op rfl (JO.box (cs := [.slice b1 r'.length d1, .slice b2 w'.length d2]) rfl rfl) ?_
  rintro _ _ ⟨b_2, rfl, rfl⟩
  refine JL.pure rfl (PO.assign (v := .bool false) rfl) ?_
  refine JL.nil ?_
  refine JQ.seq ?_
  refine JC.seq ?_
  refine JC.seq ?_
  refine JC.region ?_
  refine JL.pure rfl (PO.fieldAddr fo30_0 rfl) ?_
  refine JL.ld rfl (LO.load1 1 (v := .slice a1 r.length c1) rfl rfl Tryz.isAgg23 rfl) ?_
  refine JL.pure rfl (PO.fieldAddr fo30_0 rfl) ?_
  refine JL.ld rfl (LO.load1 0 (v := .slice b1 r'.length d1) rfl rfl Tryz.isAgg23 rfl) ?_
  refine JL.op rfl (JO.call [] Tryz.call243 rfl (C_eqStringS a1 b1 c1 d1 r r' (by omega)) rfl (fun w hw => ⟨hw.seeOut_ hs_a1 (fun _ _ => List.not_mem_nil), hw.seeOut_ hs_b1 (fun _ _ => List.not_mem_nil)⟩)) ?_
  rintro _ _ ⟨_, ⟨rfl, rfl⟩, rfl⟩
  refine JL.pure rfl (PO.not rfl) ?_
  refine JL.nil ?_
  refine JQ.seq ?_
  by_cases h_3 : r = r'
  · skip
    refine JC.condF (congrArg Value.bool (congrArg Bool.not (decide_eq_true h_3))) ?_
    refine JC.skip ?_
    refine JQ.seq ?_
    refine JC.seq ?_
    refine JC.seq ?_
    refine JC.region ?_
    refine JL.pure rfl (PO.fieldAddr fo30_1 rfl) ?_
    refine JL.ld rfl (LO.load1 1 (v := .slice a2 w.length c2) rfl rfl Tryz.isAgg23 rfl) ?_
    refine JL.pure rfl (PO.fieldAddr fo30_1 rfl) ?_
    refine JL.ld rfl (LO.load1 0 (v := .slice b2 w'.length d2) rfl rfl Tryz.isAgg23 rfl) ?_
    refine JL.op rfl (JO.call [] Tryz.call243 rfl (C_eqStringS a2 b2 c2 d2 w w' (by omega)) rfl (fun w hw => ⟨hw.seeOut_ hs_a2 (fun _ _ => List.not_mem_nil), hw.seeOut_ hs_b2 (fun _ _ => List.not_mem_nil)⟩)) ?_
    rintro _ _ ⟨_, ⟨rfl, rfl⟩, rfl⟩
    refine JL.pure rfl (PO.not rfl) ?_
    refine JL.nil ?_
    refine JQ.seq ?_
    by_cases h_4 : w = w'
    · skip
      refine JC.condF (congrArg Value.bool (congrArg Bool.not (decide_eq_true h_4))) ?_
      refine JC.skip ?_
      refine JQ.seq ?_
      refine JC.seq ?_
      refine JC.region ?_
      refine JL.pure rfl (PO.assign (v := .bool true) rfl) ?_
      refine JL.nil ?_
      refine JQ.seq ?_
      refine JC.ret ?_
      refine Done.one (.inl rfl) rfl (RV.tmp (v := .bool true) rfl) (List.nil_sublist _) ?_
      refine ⟨?_, rfl⟩
      simp_all
    · skip
      refine JC.condT (congrArg Value.bool (congrArg Bool.not (decide_eq_false h_4))) ?_
      refine JC.seq ?_
      refine JC.region ?_
      refine JL.pure rfl (PO.assign (v := .bool false) rfl) ?_
      refine JL.nil ?_
      refine JQ.seq ?_
      refine JC.ret ?_
      refine JQ.thenRet ?_
      refine Done.one (.inl rfl) rfl (RV.tmp (v := .bool false) rfl) (List.nil_sublist _) ?_
      refine ⟨?_, rfl⟩
      simp_all
  · skip
    refine JC.condT (congrArg Value.bool (congrArg Bool.not (decide_eq_false h_3))) ?_
    refine JC.seq ?_
    refine JC.region ?_
    refine JL.pure rfl (PO.assign (v := .bool false) rfl) ?_
    refine JL.nil ?_
    refine JQ.seq ?_
    refine JC.ret ?_
    refine JQ.thenRet ?_
    refine Done.one (.inl rfl) rfl (RV.tmp (v := .bool false) rfl) (List.nil_sublist _) ?_
    refine ⟨?_, rfl⟩
    simp_all

theorem C_eqMach (a0 a1 a2 b0 b1 b2 : Option Addr) (c0_ c1 c2 d0_ d1 d2 : Nat) (s : List Cell) (r w : List Str) (s' : List Cell) (r' w' : List Str) (h0 : s.length ≤ 9223372036854775807) (h1 : r.length ≤ 9223372036854775807) (h2 : w.length ≤ 9223372036854775807) :
    Ct Tryz.prog 19 [.agg #[.slice a0 s.length c0_, .slice a1 r.length c1, .slice a2 w.length c2], .agg #[.slice b0 s'.length d0_, .slice b1 r'.length d1, .slice b2 w'.length d2]] [] (fun w_ => Sees w_ (.slice a0 s.length c0_) 2 s.length (s.flatMap encC) ∧ Sees w_ (.slice a1 r.length c1) 1 r.length (r.map str) ∧ Sees w_ (.slice a2 w.length c2) 1 w.length (w.map str) ∧ Sees w_ (.slice b0 s'.length d0_) 2 s'.length (s'.flatMap encC) ∧ Sees w_ (.slice b1 r'.length d1) 1 r'.length (r'.map str) ∧ Sees w_ (.slice b2 w'.length d2) 1 w'.length (w'.map str)) (fun v A' => v = .bool (decide (s = s') && (decide (r = r') && decide (w = w'))) ∧ A' = []) := by
  refine Ct.intro Tryz.func19 rfl Tryz.ntmps19 (Nat.le_of_ble_eq_true rfl) fun w0 hpre => ?_
  have hs_a0 : Sees w0 _ _ _ _ := hpre.1
  have hs_a1 : Sees w0 _ _ _ _ := hpre.2.1
  have hs_a2 : Sees w0 _ _ _ _ := hpre.2.2.1
  have hs_b0 : Sees w0 _ _ _ _ := hpre.2.2.2.1
  have hs_b1 : Sees w0 _ _ _ _ := hpre.2.2.2.2.1
  have hs_b2 : Sees w0 _ _ _ _ := hpre.2.2.2.2.2
  refine JC.seq ?_
  refine JC.region ?_
  refine JL.op rfl (JO.box (cs := [.slice a0 s.length c0_, .slice a1 r.length c1, .slice a2 w.length c2]) rfl rfl) ?_
  rintro _ _ ⟨b_1, rfl, rfl⟩
  refine JL.op rfl (JO.box (cs := [.slice b0 s'.length d0_, .slice b1 r'.length d1, .slice b2 w'.length d2]) rfl rfl) ?_
  rintro _ _ ⟨b_2, rfl, rfl⟩
  refine JL.pure rfl (PO.assign (v := .bool false) rfl) ?_
  refine JL.nil ?_
  refine JQ.seq ?_
  refine JC.seq ?_
  refine JC.seq ?_
  refine JC.region ?_
  refine JL.pure rfl (PO.fieldAddr fo32_0 rfl) ?_
  refine JL.ld rfl (LO.load1 1 (v := .slice a0 s.length c0_) rfl rfl Tryz.isAgg29 rfl) ?_
  refine JL.pure rfl (PO.fieldAddr fo32_0 rfl) ?_
  refine JL.ld rfl (LO.load1 0 (v := .slice b0 s'.length d0_) rfl rfl Tryz.isAgg29 rfl) ?_
  refine JL.op rfl (JO.call [] Tryz.call129 rfl (C_eqCellS a0 b0 c0_ d0_ s s' (by omega)) rfl (fun w hw => ⟨hw.seeOut_ hs_a0 (fun _ _ => List.not_mem_nil), hw.seeOut_ hs_b0 (fun _ _ => List.not_mem_nil)⟩)) ?_
  rintro _ _ ⟨_, ⟨rfl, rfl⟩, rfl⟩
  refine JL.pure rfl (PO.not rfl) ?_
  refine JL.nil ?_
  refine JQ.seq ?_
  by_cases h_3 : s = s'
  · skip
    refine JC.condF (congrArg Value.bool (congrArg Bool.not (decide_eq_true h_3))) ?_
    refine JC.skip ?_
    refine JQ.seq ?_
    refine JC.seq ?_
    refine JC.seq ?_
    refine JC.region ?_
    refine JL.pure rfl (PO.fieldAddr fo32_1 rfl) ?_
    refine JL.ld rfl (LO.loadK 1 (vs := [.slice a1 r.length c1, .slice a2 w.length c2]) rfl rfl Tryz.isAgg30 Tryz.sizeOf30 rfl rfl) ?_
    refine JL.pure rfl (PO.fieldAddr fo32_1 rfl) ?_
    refine JL.ld rfl (LO.loadK 0 (vs := [.slice b1 r'.length d1, .slice b2 w'.length d2]) rfl rfl Tryz.isAgg30 Tryz.sizeOf30 rfl rfl) ?_
    refine JL.op rfl (JO.call [] Tryz.call130 rfl (C_eqTouch a1 a2 b1 b2 c1 c2 d1 d2 r w r' w' (by omega) (by omega)) rfl (fun w hw => ⟨hw.seeOut_ hs_a1 (fun _ _ => List.not_mem_nil), hw.seeOut_ hs_a2 (fun _ _ => List.not_mem_nil), hw.seeOut_ hs_b1 (fun _ _ => List.not_mem_nil), hw.seeOut_ hs_b2 (fun _ _ => List.not_mem_nil)⟩)) ?_
    rintro _ _ ⟨_, ⟨rfl, rfl⟩, rfl⟩
    refine JL.pure rfl (PO.not rfl) ?_
    refine JL.nil ?_
    refine JQ.seq ?_
    rcases Bool.eq_false_or_eq_true (decide (r = r') && decide (w = w')) with h_4 | h_4
    · skip
      have h_4d := h_4
      simp only [Bool.and_eq_true, Bool.and_eq_false_iff, decide_eq_true_eq, decide_eq_false_iff_not] at h_4d
      refine JC.condF (congrArg Value.bool (congrArg Bool.not h_4)) ?_
      refine JC.skip ?_
      refine JQ.seq ?_
      refine JC.seq ?_
      refine JC.region ?_
      refine JL.pure rfl (PO.assign (v := .bool true) rfl) ?_
      refine JL.nil ?_
      refine JQ.seq ?_
      refine JC.ret ?_
      refine Done.one (.inl rfl) rfl (RV.tmp (v := .bool true) rfl) (List.nil_sublist _) ?_
      refine ⟨?_, rfl⟩
      simp_all
    · skip
      have h_4d := h_4
      simp only [Bool.and_eq_true, Bool.and_eq_false_iff, decide_eq_true_eq, decide_eq_false_iff_not] at h_4d
      refine JC.condT (congrArg Value.bool (congrArg Bool.not h_4)) ?_
      refine JC.seq ?_
      refine JC.region ?_
      refine JL.pure rfl (PO.assign (v := .bool false) rfl) ?_
      refine JL.nil ?_
      refine JQ.seq ?_
      refine JC.ret ?_
      refine JQ.thenRet ?_
      refine Done.one (.inl rfl) rfl (RV.tmp (v := .bool false) rfl) (List.nil_sublist _) ?_
      refine ⟨?_, rfl⟩
      simp_all
  · skip
    refine JC.condT (congrArg Value.bool (congrArg Bool.not (decide_eq_false h_3))) ?_
    refine JC.seq ?_
    refine JC.region ?_
    refine JL.pure rfl (PO.assign (v := .bool false) rfl) ?_
    refine JL.nil ?_
    refine JQ.seq ?_
    refine JC.ret ?_
    refine JQ.thenRet ?_
    refine Done.one (.inl rfl) rfl (RV.tmp (v := .bool false) rfl) (List.nil_sublist _) ?_
    refine ⟨?_, rfl⟩
    simp_all

theorem C_markTouch (a1 a2 : Option Addr) (c1 c2 : Nat) (r w : List Str) (k : Nat) (h0 : 0 < k) (h1 : k + r.length + w.length ≤ 100000000) :
    Ct Tryz.prog 132 [.agg #[.slice a1 r.length c1, .slice a2 w.length c2], .int .i64 ((k : Nat) : Int)] [Res.row (.slice a1 r.length c1) 9 1 r.length (r.map str), Res.row (.slice a2 w.length c2) 9 1 w.length (w.map str)] (fun _ => True) (fun v A' => v = .int .i64 ((k + r.length + w.length : Nat) : Int) ∧ A' = [.row (.slice a1 r.length c1) 9 1 r.length ((markS r k).map str), .row (.slice a2 w.length c2) 9 1 w.length ((markS w (k + r.length)).map str)]) := by
  refine Ct.intro Tryz.func132 rfl Tryz.ntmps132 (Nat.le_of_ble_eq_true rfl) fun w0 hpre => ?_
  refine JC.seq ?_
  refine JC.region ?_
  refine JL.op rfl (JO.box (cs := [.slice a1 r.length c1, .slice a2 w.length c2]) rfl rfl) ?_
  rintro _ _ ⟨b_1, rfl, rfl⟩
  refine JL.pure rfl (PO.assign (v := .int .i64 0) rfl) ?_
  refine JL.nil ?_
  refine JQ.seq ?_
  refine JC.seq ?_
  refine JC.region ?_
  refine JL.pure rfl (PO.fieldAddr fo30_0 rfl) ?_
  refine JL.ld rfl (LO.load1 0 (v := .slice a1 r.length c1) rfl rfl Tryz.isAgg23 rfl) ?_
  refine JL.pure rfl (PO.move (v := .int .i64 ((k : Nat) : Int)) rfl) ?_
  refine JL.op rfl (JO.call [1] Tryz.call245 rfl (C_markStringS a1 c1 r k (by omega) (by omega)) rfl (fun _ _ => trivial)) ?_
  rintro _ _ ⟨_, ⟨rfl, rfl⟩, rfl⟩
  refine JL.pure rfl (PO.assign (v := .int .i64 ((k + r.length : Nat) : Int)) rfl) ?_
  refine JL.nil ?_
  refine JQ.seq ?_
  refine JC.seq ?_
  refine JC.region ?_
  refine JL.pure rfl (PO.fieldAddr fo30_1 rfl) ?_
  refine JL.ld rfl (LO.load1 1 (v := .slice a2 w.length c2) rfl rfl Tryz.isAgg23 rfl) ?_
  refine JL.pure rfl (PO.move (v := .int .i64 ((k + r.length : Nat) : Int)) rfl) ?_
  refine JL.op rfl (JO.call [2] Tryz.call245 rfl (C_markStringS a2 c2 w (k + r.length) (by omega) (by omega)) rfl (fun _ _ => trivial)) ?_
  rintro _ _ ⟨_, ⟨rfl, rfl⟩, rfl⟩
  refine JL.pure rfl (PO.assign (v := .int .i64 ((k + r.length + w.length : Nat) : Int)) rfl) ?_
  refine JL.nil ?_
  refine JQ.seq ?_
  refine JC.seq ?_
  refine JC.region ?_
  refine JL.pure rfl (PO.move (v := .int .i64 ((k + r.length + w.length : Nat) : Int)) rfl) ?_
  refine JL.pure rfl (PO.assign (v := .int .i64 ((k + r.length + w.length : Nat) : Int)) rfl) ?_
  refine JL.nil ?_
  refine JQ.seq ?_
  refine JC.ret ?_
  refine JQ.perm (pick_perm [1, 0] (A := [Res.row (.slice a1 r.length c1) 9 1 r.length ((markS r k).map str), Res.row (.slice a2 w.length c2) 9 1 w.length ((markS w (k + r.length)).map str)]) (F := [bk b_1 30 [.slice a1 r.length c1, .slice a2 w.length c2]]) rfl).symm ?_
  refine Done.one (.inl rfl) rfl (RV.tmp (v := .int .i64 ((k + r.length + w.length : Nat) : Int)) rfl) (List.sublist_append_left [Res.row (.slice a1 r.length c1) 9 1 r.length ((markS r k).map str), Res.row (.slice a2 w.length c2) 9 1 w.length ((markS w (k + r.length)).map str)] [bk b_1 30 [.slice a1 r.length c1, .slice a2 w.length c2]]) ?_
  exact ⟨rfl, rfl⟩

theorem C_markMach (a0 a1 a2 : Option Addr) (c0_ c1 c2 : Nat) (s : List Cell) (r w : List Str) (k : Nat) (h0 : 0 < k) (h1 : k + 2 * s.length + r.length + w.length ≤ 100000000) :
    Ct Tryz.prog 20 [.agg #[.slice a0 s.length c0_, .slice a1 r.length c1, .slice a2 w.length c2], .int .i64 ((k : Nat) : Int)] [Res.row (.slice a0 s.length c0_) 113 2 s.length (s.flatMap encC), Res.row (.slice a1 r.length c1) 9 1 r.length (r.map str), Res.row (.slice a2 w.length c2) 9 1 w.length (w.map str)] (fun _ => True) (fun v A' => v = .int .i64 ((k + 2 * s.length + r.length + w.length : Nat) : Int) ∧ A' = [.row (.slice a0 s.length c0_) 113 2 s.length ((markC s k).flatMap encC), .row (.slice a1 r.length c1) 9 1 r.length ((markS r (k + 2 * s.length)).map str), .row (.slice a2 w.length c2) 9 1 w.length ((markS w (k + 2 * s.length + r.length)).map str)]) := by
  refine Ct.intro Tryz.func20 rfl Tryz.ntmps20 (Nat.le_of_ble_eq_true rfl) fun w0 hpre => ?_
  refine JC.seq ?_
  refine JC.region ?_
  refine JL.op rfl (JO.box (cs := [.slice a0 s.length c0_, .slice a1 r.length c1, .slice a2 w.length c2]) rfl rfl) ?_
  rintro _ _ ⟨b_1, rfl, rfl⟩
  refine JL.pure rfl (PO.assign (v := .int .i64 0) rfl) ?_
  refine JL.nil ?_
  refine JQ.seq ?_
  refine JC.seq ?_
  refine JC.region ?_
  refine JL.pure rfl (PO.fieldAddr fo32_0 rfl) ?_
  refine JL.ld rfl (LO.load1 0 (v := .slice a0 s.length c0_) rfl rfl Tryz.isAgg29 rfl) ?_
  refine JL.pure rfl (PO.move (v := .int .i64 ((k : Nat) : Int)) rfl) ?_
  refine JL.op rfl (JO.call [1] Tryz.call131 rfl (C_markCellS a0 c0_ s k (by omega) (by omega)) rfl (fun _ _ => trivial)) ?_
  rintro _ _ ⟨_, ⟨rfl, rfl⟩, rfl⟩
  refine JL.pure rfl (PO.assign (v := .int .i64 ((k + 2 * s.length : Nat) : Int)) rfl) ?_
  refine JL.nil ?_
  refine JQ.seq ?_
  refine JC.seq ?_
  refine JC.region ?_
  refine JL.pure rfl (PO.fieldAddr fo32_1 rfl) ?_
  refine JL.ld rfl (LO.loadK 1 (vs := [.slice a1 r.length c1, .slice a2 w.length c2]) rfl rfl Tryz.isAgg30 Tryz.sizeOf30 rfl rfl) ?_
  refine JL.pure rfl (PO.move (v := .int .i64 ((k + 2 * s.length : Nat) : Int)) rfl) ?_
  refine JL.op rfl (JO.call [2, 2] Tryz.call132 rfl (C_markTouch a1 a2 c1 c2 r w (k + 2 * s.length) (by omega) (by omega)) rfl (fun _ _ => trivial)) ?_
  rintro _ _ ⟨_, ⟨rfl, rfl⟩, rfl⟩
  refine JL.pure rfl (PO.assign (v := .int .i64 ((k + 2 * s.length + r.length + w.length : Nat) : Int)) rfl) ?_
  refine JL.nil ?_
  refine JQ.seq ?_
  refine JC.seq ?_
  refine JC.region ?_
  refine JL.pure rfl (PO.move (v := .int .i64 ((k + 2 * s.length + r.length + w.length : Nat) : Int)) rfl) ?_
  refine JL.pure rfl (PO.assign (v := .int .i64 ((k + 2 * s.length + r.length + w.length : Nat) : Int)) rfl) ?_
  refine JL.nil ?_
  refine JQ.seq ?_
  refine JC.ret ?_
  refine JQ.perm (pick_perm [2, 0, 0] (A := [Res.row (.slice a0 s.length c0_) 113 2 s.length ((markC s k).flatMap encC), Res.row (.slice a1 r.length c1) 9 1 r.length ((markS r (k + 2 * s.length)).map str), Res.row (.slice a2 w.length c2) 9 1 w.length ((markS w (k + 2 * s.length + r.length)).map str)]) (F := [bk b_1 32 [.slice a0 s.length c0_, .slice a1 r.length c1, .slice a2 w.length c2]]) rfl).symm ?_
  refine Done.one (.inl rfl) rfl (RV.tmp (v := .int .i64 ((k + 2 * s.length + r.length + w.length : Nat) : Int)) rfl) (List.sublist_append_left [Res.row (.slice a0 s.length c0_) 113 2 s.length ((markC s k).flatMap encC), Res.row (.slice a1 r.length c1) 9 1 r.length ((markS r (k + 2 * s.length)).map str), Res.row (.slice a2 w.length c2) 9 1 w.length ((markS w (k + 2 * s.length + r.length)).map str)] [bk b_1 32 [.slice a0 s.length c0_, .slice a1 r.length c1, .slice a2 w.length c2]]) ?_
  exact ⟨rfl, rfl⟩

theorem C_heldTouch (a1 a2 : Option Addr) (n1 n2 c1 c2 : Nat) (r w : List Str) (k : Int) (hr : r.length = n1) (hw_ : w.length = n2) (h0 : 0 < k) (h1 : k + r.length + w.length ≤ 100000000) :
    Ct Tryz.prog 134 [.agg #[.slice a1 n1 c1, .slice a2 n2 c2], .int .i64 k] [] (fun w_ => Sees w_ (.slice a1 n1 c1) 1 n1 (r.map str) ∧ Sees w_ (.slice a2 n2 c2) 1 n2 (w.map str)) (fun v A' => v = .int .i64 (heldT r w k) ∧ A' = []) := by
  refine Ct.intro Tryz.func134 rfl Tryz.ntmps134 (Nat.le_of_ble_eq_true rfl) fun w0 hpre => ?_
  have hs_a1 : Sees w0 _ _ _ _ := hpre.1
  have hs_a2 : Sees w0 _ _ _ _ := hpre.2
  refine JC.seq ?_
  refine JC.region ?_
  refine JL.op rfl (JO.box (cs := [.slice a1 n1 c1, .slice a2 n2 c2]) rfl rfl) ?_
  rintro _ _ ⟨b_1, rfl, rfl⟩
  refine JL.pure rfl (PO.assign (v := .int .i64 0) rfl) ?_
  refine JL.nil ?_
  refine JQ.seq ?_
  refine JC.seq ?_
  refine JC.region ?_
  refine JL.pure rfl (PO.fieldAddr fo30_0 rfl) ?_
  refine JL.ld rfl (LO.load1 0 (v := .slice a1 n1 c1) rfl rfl Tryz.isAgg23 rfl) ?_
  refine JL.pure rfl (PO.move (v := .int .i64 k) rfl) ?_
  refine JL.op rfl (JO.call [] Tryz.call246 rfl (C_heldStringSI a1 n1 c1 r k (by first | rfl | exact markS_len _ _ | exact markC_len _ _ | assumption) (by omega) (by omega)) rfl (fun w hw => hw.seeOut_ hs_a1 (fun _ _ => List.not_mem_nil))) ?_
  rintro _ _ ⟨_, ⟨rfl, rfl⟩, rfl⟩
  have hp1 := heldS_pos r (k).toNat
  have hq1 := heldS_lo r (k).toNat
  refine JL.pure rfl (PO.assign (v := .int .i64 (heldS r (k).toNat)) rfl) ?_
  refine JL.nil ?_
  refine JQ.seq ?_
  refine JC.seq ?_
  refine JC.seq ?_
  refine JC.region ?_
  refine JL.pure rfl (PO.move (v := .int .i64 (heldS r (k).toNat)) rfl) ?_
  refine JL.pure rfl (PO.lss rfl rfl) ?_
  refine JL.nil ?_
  refine JQ.seq ?_
  by_cases h_2 : (heldS r (k).toNat) < 0
  · skip
    refine JC.condT (congrArg Value.bool (decide_eq_true h_2)) ?_
    refine JC.seq ?_
    refine JC.region ?_
    refine JL.pure rfl (PO.assign (v := .int .i64 (-1)) rfl) ?_
    refine JL.nil ?_
    refine JQ.seq ?_
    refine JC.ret ?_
    refine JQ.thenRet ?_
    refine Done.one (.inl rfl) rfl (RV.tmp (v := .int .i64 (-1)) rfl) (List.nil_sublist _) ?_
    refine ⟨?_, rfl⟩
    simp only [heldT]
    congr 1
    first | rw [if_pos (by omega)] | (rw [if_neg (by omega)]; first | rw [if_pos (by omega)] | rw [if_neg (by omega)])
  · skip
    refine JC.condF (congrArg Value.bool (decide_eq_false h_2)) ?_
    refine JC.skip ?_
    refine JQ.seq ?_
    refine JC.seq ?_
    refine JC.region ?_
    refine JL.pure rfl (PO.fieldAddr fo30_1 rfl) ?_
    refine JL.ld rfl (LO.load1 0 (v := .slice a2 n2 c2) rfl rfl Tryz.isAgg23 rfl) ?_
    refine JL.pure rfl (PO.move (v := .int .i64 (heldS r (k).toNat)) rfl) ?_
    refine JL.op rfl (JO.call [] Tryz.call246 rfl (C_heldStringSI a2 n2 c2 w (heldS r (k).toNat) (by first | rfl | exact markS_len _ _ | exact markC_len _ _ | assumption) (by omega) (by omega)) rfl (fun w hw => hw.seeOut_ hs_a2 (fun _ _ => List.not_mem_nil))) ?_
    rintro _ _ ⟨_, ⟨rfl, rfl⟩, rfl⟩
    have hp2 := heldS_pos w (heldS r (k).toNat).toNat
    have hq2 := heldS_lo w (heldS r (k).toNat).toNat
    refine JL.pure rfl (PO.assign (v := .int .i64 (heldS w (heldS r (k).toNat).toNat)) rfl) ?_
    refine JL.nil ?_
    refine JQ.seq ?_
    refine JC.seq ?_
    refine JC.seq ?_
    refine JC.region ?_
    refine JL.pure rfl (PO.move (v := .int .i64 (heldS w (heldS r (k).toNat).toNat)) rfl) ?_
    refine JL.pure rfl (PO.lss rfl rfl) ?_
    refine JL.nil ?_
    refine JQ.seq ?_
    by_cases h_3 : (heldS w (heldS r (k).toNat).toNat) < 0
    · skip
      refine JC.condT (congrArg Value.bool (decide_eq_true h_3)) ?_
      refine JC.seq ?_
      refine JC.region ?_
      refine JL.pure rfl (PO.assign (v := .int .i64 (-1)) rfl) ?_
      refine JL.nil ?_
      refine JQ.seq ?_
      refine JC.ret ?_
      refine JQ.thenRet ?_
      refine Done.one (.inl rfl) rfl (RV.tmp (v := .int .i64 (-1)) rfl) (List.nil_sublist _) ?_
      refine ⟨?_, rfl⟩
      simp only [heldT]
      congr 1
      first | rw [if_pos (by omega)] | (rw [if_neg (by omega)]; first | rw [if_pos (by omega)] | rw [if_neg (by omega)])
    · skip
      refine JC.condF (congrArg Value.bool (decide_eq_false h_3)) ?_
      refine JC.skip ?_
      refine JQ.seq ?_
      refine JC.seq ?_
      refine JC.region ?_
      refine JL.pure rfl (PO.move (v := .int .i64 (heldS w (heldS r (k).toNat).toNat)) rfl) ?_
      refine JL.pure rfl (PO.assign (v := .int .i64 (heldS w (heldS r (k).toNat).toNat)) rfl) ?_
      refine JL.nil ?_
      refine JQ.seq ?_
      refine JC.ret ?_
      refine Done.one (.inl rfl) rfl (RV.tmp (v := .int .i64 (heldS w (heldS r (k).toNat).toNat)) rfl) (List.nil_sublist _) ?_
      refine ⟨?_, rfl⟩
      simp only [heldT]
      congr 1
      first | rw [if_pos (by omega)] | (rw [if_neg (by omega)]; first | rw [if_pos (by omega)] | rw [if_neg (by omega)])

theorem heldT_pos (r w : List Str) (k : Int) (h0 : 0 ≤ k) : (heldT r w k = -1 ∨ k ≤ heldT r w k) ∧ heldT r w k ≤ k + r.length + w.length := by
  have h1 := heldS_pos r k.toNat
  have h2 := heldS_lo r k.toNat
  have h3 := heldS_pos w (heldS r k.toNat).toNat
  have h4 := heldS_lo w (heldS r k.toNat).toNat
  unfold heldT
  split
  · omega
  · split <;> omega

theorem C_heldMach (a0 a1 a2 : Option Addr) (n0 n1 n2 c0_ c1 c2 : Nat) (s : List Cell) (r w : List Str) (k : Int) (hs : s.length = n0) (hr : r.length = n1) (hw_ : w.length = n2) (h0 : 0 < k) (h1 : k + 2 * s.length + r.length + w.length ≤ 100000000) :
    Ct Tryz.prog 21 [.agg #[.slice a0 n0 c0_, .slice a1 n1 c1, .slice a2 n2 c2], .int .i64 k] [] (fun w_ => Sees w_ (.slice a0 n0 c0_) 2 n0 (s.flatMap encC) ∧ Sees w_ (.slice a1 n1 c1) 1 n1 (r.map str) ∧ Sees w_ (.slice a2 n2 c2) 1 n2 (w.map str)) (fun v A' => v = .int .i64 (heldM s r w k) ∧ A' = []) := by
  refine Ct.intro Tryz.func21 rfl Tryz.ntmps21 (Nat.le_of_ble_eq_true rfl) fun w0 hpre => ?_
  have hs_a0 : Sees w0 _ _ _ _ := hpre.1
  have hs_a1 : Sees w0 _ _ _ _ := hpre.2.1
  have hs_a2 : Sees w0 _ _ _ _ := hpre.2.2
  refine JC.seq ?_
  refine JC.region ?_
  refine JL.op rfl (JO.box (cs := [.slice a0 n0 c0_, .slice a1 n1 c1, .slice a2 n2 c2]) rfl rfl) ?_
  rintro _ _ ⟨b_1, rfl, rfl⟩
  refine JL.pure rfl (PO.assign (v := .int .i64 0) rfl) ?_
  refine JL.nil ?_
  refine JQ.seq ?_
  refine JC.seq ?_
  refine JC.region ?_
  refine JL.pure rfl (PO.fieldAddr fo32_0 rfl) ?_
  refine JL.ld rfl (LO.load1 0 (v := .slice a0 n0 c0_) rfl rfl Tryz.isAgg29 rfl) ?_
  refine JL.pure rfl (PO.move (v := .int .i64 k) rfl) ?_
  refine JL.op rfl (JO.call [] Tryz.call133 rfl (C_heldCellSI a0 n0 c0_ s k (by first | rfl | exact markS_len _ _ | exact markC_len _ _ | assumption) (by omega) (by omega)) rfl (fun w hw => hw.seeOut_ hs_a0 (fun _ _ => List.not_mem_nil))) ?_
  rintro _ _ ⟨_, ⟨rfl, rfl⟩, rfl⟩
  have hp1 := heldC_pos s (k).toNat
  have hq1 := heldC_lo s (k).toNat
  refine JL.pure rfl (PO.assign (v := .int .i64 (heldC s (k).toNat)) rfl) ?_
  refine JL.nil ?_
  refine JQ.seq ?_
  refine JC.seq ?_
  refine JC.seq ?_
  refine JC.region ?_
  refine JL.pure rfl (PO.move (v := .int .i64 (heldC s (k).toNat)) rfl) ?_
  refine JL.pure rfl (PO.lss rfl rfl) ?_
  refine JL.nil ?_
  refine JQ.seq ?_
  by_cases h_2 : (heldC s (k).toNat) < 0
  · skip
    refine JC.condT (congrArg Value.bool (decide_eq_true h_2)) ?_
    refine JC.seq ?_
    refine JC.region ?_
    refine JL.pure rfl (PO.assign (v := .int .i64 (-1)) rfl) ?_
    refine JL.nil ?_
    refine JQ.seq ?_
    refine JC.ret ?_
    refine JQ.thenRet ?_
    refine Done.one (.inl rfl) rfl (RV.tmp (v := .int .i64 (-1)) rfl) (List.nil_sublist _) ?_
    refine ⟨?_, rfl⟩
    simp only [heldM]
    congr 1
    first | rw [if_pos (by omega)] | (rw [if_neg (by omega)]; first | rw [if_pos (by omega)] | rw [if_neg (by omega)])
  · skip
    refine JC.condF (congrArg Value.bool (decide_eq_false h_2)) ?_
    refine JC.skip ?_
    refine JQ.seq ?_
    refine JC.seq ?_
    refine JC.region ?_
    refine JL.pure rfl (PO.fieldAddr fo32_1 rfl) ?_
    refine JL.ld rfl (LO.loadK 0 (vs := [.slice a1 n1 c1, .slice a2 n2 c2]) rfl rfl Tryz.isAgg30 Tryz.sizeOf30 rfl rfl) ?_
    refine JL.pure rfl (PO.move (v := .int .i64 (heldC s (k).toNat)) rfl) ?_
    refine JL.op rfl (JO.call [] Tryz.call134 rfl (C_heldTouch a1 a2 n1 n2 c1 c2 r w (heldC s (k).toNat) (by first | rfl | exact markS_len _ _ | exact markC_len _ _ | assumption) (by first | rfl | exact markS_len _ _ | exact markC_len _ _ | assumption) (by omega) (by omega)) rfl (fun w hw => ⟨hw.seeOut_ hs_a1 (fun _ _ => List.not_mem_nil), hw.seeOut_ hs_a2 (fun _ _ => List.not_mem_nil)⟩)) ?_
    rintro _ _ ⟨_, ⟨rfl, rfl⟩, rfl⟩
    have hp2 := heldT_pos r w (heldC s (k).toNat) (by omega)
    refine JL.pure rfl (PO.assign (v := .int .i64 (heldT r w (heldC s (k).toNat))) rfl) ?_
    refine JL.nil ?_
    refine JQ.seq ?_
    refine JC.seq ?_
    refine JC.seq ?_
    refine JC.region ?_
    refine JL.pure rfl (PO.move (v := .int .i64 (heldT r w (heldC s (k).toNat))) rfl) ?_
    refine JL.pure rfl (PO.lss rfl rfl) ?_
    refine JL.nil ?_
    refine JQ.seq ?_
    by_cases h_3 : (heldT r w (heldC s (k).toNat)) < 0
    · skip
      refine JC.condT (congrArg Value.bool (decide_eq_true h_3)) ?_
      refine JC.seq ?_
      refine JC.region ?_
      refine JL.pure rfl (PO.assign (v := .int .i64 (-1)) rfl) ?_
      refine JL.nil ?_
      refine JQ.seq ?_
      refine JC.ret ?_
      refine JQ.thenRet ?_
      refine Done.one (.inl rfl) rfl (RV.tmp (v := .int .i64 (-1)) rfl) (List.nil_sublist _) ?_
      refine ⟨?_, rfl⟩
      simp only [heldM]
      congr 1
      first | rw [if_pos (by omega)] | (rw [if_neg (by omega)]; first | rw [if_pos (by omega)] | rw [if_neg (by omega)])
    · skip
      refine JC.condF (congrArg Value.bool (decide_eq_false h_3)) ?_
      refine JC.skip ?_
      refine JQ.seq ?_
      refine JC.seq ?_
      refine JC.region ?_
      refine JL.pure rfl (PO.move (v := .int .i64 (heldT r w (heldC s (k).toNat))) rfl) ?_
      refine JL.pure rfl (PO.assign (v := .int .i64 (heldT r w (heldC s (k).toNat))) rfl) ?_
      refine JL.nil ?_
      refine JQ.seq ?_
      refine JC.ret ?_
      refine Done.one (.inl rfl) rfl (RV.tmp (v := .int .i64 (heldT r w (heldC s (k).toNat))) rfl) (List.nil_sublist _) ?_
      refine ⟨?_, rfl⟩
      simp only [heldM]
      congr 1
      first | rw [if_pos (by omega)] | (rw [if_neg (by omega)]; first | rw [if_pos (by omega)] | rw [if_neg (by omega)])

end Go.Proofs.YtenfajgpdhgknaaGreatDoor
