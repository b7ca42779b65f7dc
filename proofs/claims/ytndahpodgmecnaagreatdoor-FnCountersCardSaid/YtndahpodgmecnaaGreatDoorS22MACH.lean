/-
  Drawing a machine (part 22).
-/
import Derived.Test.YtndahpodgmecnaaGreatDoorS14MACH
import Derived.Test.YtndahpodgmecnaaGreatDoorS21DRAW
set_option linter.unusedSimpArgs false
set_option linter.unusedVariables false
set_option linter.unnecessarySimpa false
namespace Go.Proofs.YtndahpodgmecnaaGreatDoor
open Go Go.RowKit
theorem Ct.toMach {P : Program} {f : FuncId} {args : List Value} {A : List Res} {Pre : World → Prop} {s : List Cell} {n : Nat} (h : Ct P f args A Pre (fun v A' => ∃ a c, v = .agg #[.slice a s.length c, .slice none 0 0, .slice none 0 0] ∧ A' = [rC a c s])) (hO : okC' n 64 s) :
    Ct P f args A Pre (fun v A' => ∃ r0x r0, (fun s => (⟨s, [], []⟩ : MS)) s = r0 ∧ r0.ok n 0 ∧ v = mv r0x r0 ∧ A' = mr r0x r0) := fun w hA hp => by
  refine (h w hA hp).mono fun e w' h => ?_
  obtain ⟨v, A', rfl, ⟨a, c, rfl, rfl⟩, hst⟩ := h
  refine ⟨_, mr ⟨a, c, none, 0, none, 0⟩ ⟨s, [], []⟩, rfl, ⟨⟨a, c, none, 0, none, 0⟩, _, rfl, ⟨hO.1, Nat.le_refl _, Nat.le_refl _, fun c hc => ⟨Nat.le_trans (hO.2 c hc).1 (by decide), Nat.le_trans (hO.2 c hc).2 (by decide)⟩⟩, rfl, rfl⟩, ?_⟩
  exact ((hst.nilRow 9 1).nilRow 9 1).perm (List.perm_append_comm (l₁ := [rS none 0 [], rS none 0 []]) (l₂ := [rC a c s])).symm
attribute [local irreducible] JL JC JQ JO LO PO JA JX Ct
def MS.empty : MS := ⟨[], [], []⟩

theorem D_store (qb : Nat) (qa : Option Addr) (qc : Nat) (ql : Str) (qp : Nat) (qs : Int) (hql : ql.length ≤ 1048576) (hqp : qp ≤ ql.length)  :
    Ct Tryz.prog 96 [.pointer (some ⟨qb, 0, none⟩)] [cb qb qa qc ql qp qs] (fun w => seesC w qa qc ql [cb qb qa qc ql qp qs]) (fun v A' => ∃ qp' qs' r0a r0c r0, qp' ≤ ql.length ∧ (okC' 8 64 r0) ∧ v = .slice r0a r0.length r0c ∧ A' = cb qb qa qc ql qp' qs' :: [rC r0a r0c r0]) := by
  refine Ct.intro Tryz.func96 rfl Tryz.ntmps96 (Nat.le_of_ble_eq_true rfl) fun w0 hpre => ?_
  have hs_qa : Sees w0 _ _ _ _ := hpre.1
  refine JC.seq ?_
  refine JC.region ?_
  refine JL.pure rfl (PO.assign (v := .slice none 0 0) rfl) ?_
  refine JL.nil ?_
  refine JQ.seq ?_
  refine JC.seq ?_
  refine JC.region ?_
  refine JL.op rfl (JO.buildSlice (ps := []) (cur := #[]) Tryz.underlying24 Tryz.sizeOf86 Tryz.zeroValue86 rfl (by kernel_rfl) (by decide) (by decide)) ?_
  rintro _ _ ⟨a_1, rfl, rfl⟩
  refine JL.pure rfl (PO.assign (v := .slice a_1 0 0) rfl) ?_
  refine JL.nil ?_
  refine JQ.seq ?_
  refine JC.seq ?_
  refine JC.seq ?_
  refine JC.region ?_
  refine JL.pure rfl (PO.assign (v := .int .i64 0) rfl) ?_
  refine JL.nil ?_
  refine JQ.seq ?_
  refine JC.block ?_
  refine JC.loop (fun k_ e_ L_ => ∃ i_ : Nat, ∃ p_q : Nat, ∃ s_q : Int, ∃ o_a : Option Addr, ∃ o_c : Nat, ∃ o_ : List Cell, (p_q ≤ ql.length) ∧ (i_ ≤ 8) ∧ (okC' i_ 64 o_) ∧ e_ 0 = .pointer (some ⟨qb, 0, none⟩) ∧ e_ 2 = .slice none 0 0 ∧ e_ 3 = .slice o_a o_.length o_c ∧ e_ 4 = .int .i64 ((i_ : Nat) : Int) ∧ L_ = [rC o_a o_c o_, cb qb qa qc ql p_q s_q] ∧ k_ = 9 - i_) _ ⟨0, qp, qs, a_1, 0, ([] : List Cell), (by omega), (by omega), (⟨by simp, fun c hc => by cases hc⟩), rfl, rfl, rfl, rfl, rfl, rfl⟩ ?_
  rintro _ e_2 _ ⟨i_, p_q, s_q, o_a, o_c, o_, hpq_, hi, hO, he_3, he_4, he_5, he_6, rfl, rfl⟩
  refine JC.seq ?_
  refine JC.seq ?_
  refine JC.region ?_
  refine JL.pure rfl (PO.move (v := .int .i64 ((i_ : Nat) : Int)) he_6) ?_
  refine JL.pure rfl (PO.move (v := .pointer (some ⟨qb, 0, none⟩)) he_3) ?_
  refine JL.op rfl (JO.call [1] Tryz.call68 rfl (D_below qb qa qc ql p_q s_q (by omega) (by omega) 8 (by omega)) rfl (fun w hw => ⟨hw.seeOut_ hs_qa (hpre.2), hw.apart hs_qa (hpre.2) (by simp)⟩)) ?_
  rintro _ _ ⟨_, ⟨qp_7, qs_8, n_10, fq_9, f_11, rfl, rfl⟩, rfl⟩
  refine JL.pure rfl (PO.lss rfl rfl) ?_
  refine JL.nil ?_
  refine JQ.seq ?_
  by_cases h_13 : ((i_ : Nat) : Int) < ((n_10 : Nat) : Int)
  · skip
    have hO1 := hO.1
    refine JC.condT (congrArg Value.bool (decide_eq_true h_13)) ?_
    refine JC.skip ?_
    refine JQ.seq ?_
    refine JC.seq ?_
    refine JC.block ?_
    refine JC.region ?_
    refine JL.pure rfl (PO.move (v := .slice o_a o_.length o_c) he_5) ?_
    refine JL.pure rfl (PO.move (v := .pointer (some ⟨qb, 0, none⟩)) he_3) ?_
    refine JL.op rfl (JO.call [0] Tryz.call77 rfl (D_key qb qa qc ql qp_7 qs_8 (by omega) (by omega)) rfl (fun w hw => ⟨hw.seeOut_ hs_qa (hpre.2), hw.apart hs_qa (hpre.2) (by simp)⟩)) ?_
    rintro _ _ ⟨_, ⟨qp_14, qs_15, u_17, fq_16, f_18, rfl, rfl⟩, rfl⟩
    refine JL.pure rfl (PO.move (v := .pointer (some ⟨qb, 0, none⟩)) he_3) ?_
    refine JL.op rfl (JO.call [0] Tryz.call97 rfl (D_val qb qa qc ql qp_14 qs_15 (by omega) (by omega)) rfl (fun w hw => ⟨hw.seeOut_ hs_qa (hpre.2), hw.apart hs_qa (hpre.2) (by simp)⟩)) ?_
    rintro _ _ ⟨_, ⟨qp_20, qs_21, u_23, fq_22, f_24, rfl, rfl⟩, rfl⟩
    refine JL.op rfl (JO.call [] Tryz.call102 rfl (C_sPutKey o_a o_c o_ u_17 u_23 (by omega) (by omega)) rfl (fun w hw => hw.see (i := 1) rfl)) ?_
    rintro _ _ ⟨_, ⟨a_26, c_27, rfl, rfl⟩, rfl⟩
    refine JL.pure rfl (PO.assign (v := .slice a_26 ((putKey o_ u_17 u_23).length) c_27) rfl) ?_
    refine JL.nil ?_
    refine JQ.blockN ?_
    refine JQ.seq ?_
    refine JC.region ?_
    refine JL.pure rfl (PO.move (v := .int .i64 ((i_ : Nat) : Int)) he_6) ?_
    refine JL.pure rfl (PO.add (c := ((i_ + 1 : Nat) : Int)) rfl rfl (wr (by omega))) ?_
    refine JL.pure rfl (PO.assign (v := .int .i64 ((i_ + 1 : Nat) : Int)) rfl) ?_
    refine JL.nil ?_
    refine JQ.pick [0, 0] (A := [rC a_26 c_27 (putKey o_ u_17 u_23), cb qb qa qc ql qp_20 qs_21]) rfl ?_
    refine JQ.again (9 - (i_ + 1)) (by omega) ⟨(i_ + 1), qp_20, qs_21, a_26, c_27, (putKey o_ u_17 u_23), (by omega), (by omega), (okC'.put hO _ _ (by omega) (by omega)), he_3, he_4, rfl, rfl, rfl, rfl⟩
  · skip
    refine JC.condF (congrArg Value.bool (decide_eq_false h_13)) ?_
    refine JC.exit ?_
    refine JQ.thenExit ?_
    refine JQ.thenExit ?_
    refine JQ.blockE ?_
    refine JQ.seq ?_
    refine JC.seq ?_
    refine JC.region ?_
    refine JL.pure rfl (PO.move (v := .slice o_a o_.length o_c) he_5) ?_
    refine JL.pure rfl (PO.assign (v := .slice o_a o_.length o_c) rfl) ?_
    refine JL.nil ?_
    refine JQ.seq ?_
    refine JC.ret ?_
    refine Done.one (.inl rfl) rfl (RV.tmp (v := .slice o_a o_.length o_c) rfl) (List.Sublist.refl _) ?_
    exact ⟨qp_7, qs_8, o_a, o_c, o_, (by omega), (hO.mono (by omega)), rfl, rfl⟩

theorem D_machOf0 (sa : Option Addr) (sc : Nat) (s : List Cell) (hs : s.length ≤ 1000000000) :
    Ct Tryz.prog 53 [.slice sa s.length sc] [] (fun w => Sees w (.slice sa s.length sc) 2 s.length (s.flatMap encC)) (fun v A' => ∃ a c, v = .agg #[.slice a s.length c, .slice none 0 0, .slice none 0 0] ∧ A' = [rC a c s]) := by
  refine Ct.intro Tryz.func53 rfl Tryz.ntmps53 (Nat.le_of_ble_eq_true rfl) fun w0 hpre => ?_
  have hs_sa : Sees w0 _ _ _ _ := hpre
  refine JC.seq ?_
  refine JC.region ?_
  refine JL.op rfl (JO.alloc (z := .agg #[.slice none 0 0, .slice none 0 0, .slice none 0 0]) (cs := [.slice none 0 0, .slice none 0 0, .slice none 0 0]) Tryz.zeroValue29 rfl) ?_
  rintro _ _ ⟨b_1, rfl, rfl⟩
  refine JL.nil ?_
  refine JQ.seq ?_
  refine JC.seq ?_
  refine JC.region ?_
  refine JL.op rfl (JO.buildSlice (ps := []) (cur := #[]) Tryz.underlying24 Tryz.sizeOf86 Tryz.zeroValue86 rfl (by kernel_rfl) (by decide) (by decide)) ?_
  rintro _ _ ⟨a_2, rfl, rfl⟩
  refine JL.pure rfl (PO.move (v := .slice sa s.length sc) rfl) ?_
  refine JL.op rfl (JO.append' 0 (q := s.length) (news := s.flatMap encC) (n' := s.length) (cs' := s.flatMap encC) rfl Tryz.underlying24 Tryz.underlying24 Tryz.typeInfo86 rfl (by' := 32) rfl rfl rfl rfl rfl (fun w hw => Src.sees (hw.seeOut_ hs_sa (fun _ _ => List.not_mem_nil)) (oneC _)) (by (try simp only [List.length_append, List.length_cons, List.length_nil, List.length_take, List.length_drop]); omega) (by (try simp only [List.length_append, List.length_cons, List.length_nil, List.length_take, List.length_drop]); omega) (by (try simp only [List.length_take, List.length_drop]); first | rfl | omega) rfl) ?_
  rintro _ _ ⟨a_3, c_4, rfl, rfl⟩
  refine JL.pure rfl (PO.build (ps := [(0, .slice a_3 s.length c_4)]) (cs := [.slice a_3 s.length c_4, .slice none 0 0, .slice none 0 0]) rfl (by kernel_rfl)) ?_
  refine JL.op rfl (JO.store 1 (vs := [.slice a_3 s.length c_4, .slice none 0 0, .slice none 0 0]) (cs' := [.slice a_3 s.length c_4, .slice none 0 0, .slice none 0 0]) rfl rfl rfl rfl Tryz.sizeOf29 rfl rfl (Nat.le_of_ble_eq_true rfl) rfl) ?_
  rintro _ _ rfl
  refine JL.nil ?_
  refine JQ.seq ?_
  refine JC.ret ?_
  refine Done.one (.inl rfl) rfl (RV.cell1 (LO.loadK 1 (vs := [.slice a_3 s.length c_4, .slice none 0 0, .slice none 0 0]) rfl rfl Tryz.isAgg29 Tryz.sizeOf29 rfl rfl) ⟨_, rfl⟩) (List.sublist_append_left [rC a_3 c_4 s] [bk b_1 29 [.slice a_3 s.length c_4, .slice none 0 0, .slice none 0 0]]) ?_
  exact ⟨a_3, c_4, rfl, rfl⟩

theorem D_machOf (sa : Option Addr) (sc : Nat) (s : List Cell) (hs : s.length ≤ 1000000000) (n : Nat) (hO : okC' n 64 s) :
    Ct Tryz.prog 53 [.slice sa s.length sc] [] (fun w => Sees w (.slice sa s.length sc) 2 s.length (s.flatMap encC)) (fun v A' => ∃ r0x r0, (fun s => (⟨s, [], []⟩ : MS)) s = r0 ∧ r0.ok n 0 ∧ v = mv r0x r0 ∧ A' = mr r0x r0) := (D_machOf0 sa sc s hs).toMach hO

theorem D_base  :
    Ct Tryz.prog 22 [] [] (fun _ => True) (fun v A' => ∃ r0x r0, MS.empty = r0 ∧ r0.ok (0) (0) ∧ v = mv r0x r0 ∧ A' = mr r0x r0) := by
  refine Ct.intro Tryz.func22 rfl Tryz.ntmps22 (Nat.le_of_ble_eq_true rfl) fun w0 hpre => ?_
  refine JC.seq ?_
  refine JC.region ?_
  refine JL.op rfl (JO.alloc (z := .agg #[.slice none 0 0, .slice none 0 0, .slice none 0 0]) (cs := [.slice none 0 0, .slice none 0 0, .slice none 0 0]) Tryz.zeroValue29 rfl) ?_
  rintro _ _ ⟨b_1, rfl, rfl⟩
  refine JL.nil ?_
  refine JQ.seq ?_
  refine JC.seq ?_
  refine JC.region ?_
  refine JL.op rfl (JO.buildSlice (ps := []) (cur := #[]) Tryz.underlying24 Tryz.sizeOf86 Tryz.zeroValue86 rfl (by kernel_rfl) (by decide) (by decide)) ?_
  rintro _ _ ⟨a_2, rfl, rfl⟩
  refine JL.op rfl (JO.call [] Tryz.call53 rfl (D_machOf a_2 0 ([] : List Cell) (by first | omega | simp) 0 ⟨by simp, fun c hc => by cases hc⟩) rfl (fun w hw => hw.see (i := 0) rfl)) ?_
  rintro _ _ ⟨_, ⟨x_3, m_4, e_6, k_5, rfl, rfl⟩, rfl⟩
  refine JL.op rfl (JO.store 4 (vs := [.slice x_3.a0 m_4.s.length x_3.c0, .slice x_3.a1 m_4.r.length x_3.c1, .slice x_3.a2 m_4.w.length x_3.c2]) (cs' := [.slice x_3.a0 m_4.s.length x_3.c0, .slice x_3.a1 m_4.r.length x_3.c1, .slice x_3.a2 m_4.w.length x_3.c2]) rfl rfl rfl rfl Tryz.sizeOf29 rfl rfl (Nat.le_of_ble_eq_true rfl) rfl) ?_
  rintro _ _ rfl
  refine JL.nil ?_
  refine JQ.seq ?_
  refine JC.ret ?_
  refine Done.one (.inl rfl) rfl (RV.cell1 (LO.loadK 4 (vs := [.slice x_3.a0 m_4.s.length x_3.c0, .slice x_3.a1 m_4.r.length x_3.c1, .slice x_3.a2 m_4.w.length x_3.c2]) rfl rfl Tryz.isAgg29 Tryz.sizeOf29 rfl rfl) ⟨_, rfl⟩) (List.sublist_append_left [rC x_3.a0 x_3.c0 m_4.s, rS x_3.a1 x_3.c1 m_4.r, rS x_3.a2 x_3.c2 m_4.w] [Res.row (.slice a_2 0 0) 86 2 0 (([] : List Cell).flatMap encC), mb b_1 x_3 m_4]) ?_
  exact ⟨x_3, m_4, (by simp only [MS.empty, e_6, if_true, if_false, Bool.false_eq_true, Bool.not_true, Bool.not_false]; (repeat (first | rw [if_pos (by omega)] | rw [if_neg (by omega)])); all_goals (first | rfl | simp only [if_true, if_false, Bool.false_eq_true, Bool.not_true, Bool.not_false, e_6])), (k_5.mono (by omega) (by omega)), rfl, rfl⟩

theorem D_mach04 (qb : Nat) (qa : Option Addr) (qc : Nat) (ql : Str) (qp : Nat) (qs : Int) (hql : ql.length ≤ 1048576) (hqp : qp ≤ ql.length)  :
    Ct Tryz.prog 67 [.pointer (some ⟨qb, 0, none⟩)] [cb qb qa qc ql qp qs] (fun w => seesC w qa qc ql [cb qb qa qc ql qp qs]) (fun v A' => ∃ qp' qs' r0x r0, qp' ≤ ql.length ∧ r0.ok (12) (4) ∧ v = mv r0x r0 ∧ A' = cb qb qa qc ql qp' qs' :: mr r0x r0) := by
  refine Ct.intro Tryz.func67 rfl Tryz.ntmps67 (Nat.le_of_ble_eq_true rfl) fun w0 hpre => ?_
  have hs_qa : Sees w0 _ _ _ _ := hpre.1
  refine JC.seq ?_
  refine JC.region ?_
  refine JL.op rfl (JO.alloc (z := .agg #[.slice none 0 0, .slice none 0 0, .slice none 0 0]) (cs := [.slice none 0 0, .slice none 0 0, .slice none 0 0]) Tryz.zeroValue29 rfl) ?_
  rintro _ _ ⟨b_1, rfl, rfl⟩
  refine JL.nil ?_
  refine JQ.seq ?_
  refine JC.seq ?_
  refine JC.region ?_
  refine JL.pure rfl (PO.move (v := .pointer (some ⟨qb, 0, none⟩)) rfl) ?_
  refine JL.op rfl (JO.call [1] Tryz.call96 rfl (D_store qb qa qc ql qp qs (by omega) (by omega)) rfl (fun w hw => ⟨hw.seeOut_ hs_qa (hpre.2), hw.apart hs_qa (hpre.2) (by simp)⟩)) ?_
  rintro _ _ ⟨_, ⟨qp_2, qs_3, l_5a, l_5c, l_5, fq_4, f_6, rfl, rfl⟩, rfl⟩
  have hO1_ := f_6.1
  refine JL.op rfl (JO.call [] Tryz.call53 rfl (D_machOf l_5a l_5c l_5 (by first | omega | simp) 8 f_6) rfl (fun w hw => hw.see (i := 1) rfl)) ?_
  rintro _ _ ⟨_, ⟨x_8, m_9, e_11, k_10, rfl, rfl⟩, rfl⟩
  refine JL.op rfl (JO.alloc (z := .agg #[.slice none 0 0, .slice none 0 0, .slice none 0 0]) (cs := [.slice none 0 0, .slice none 0 0, .slice none 0 0]) Tryz.zeroValue29 rfl) ?_
  rintro _ _ ⟨b_12, rfl, rfl⟩
  refine JL.op rfl (JO.store 0 (vs := [.slice x_8.a0 m_9.s.length x_8.c0, .slice x_8.a1 m_9.r.length x_8.c1, .slice x_8.a2 m_9.w.length x_8.c2]) (cs' := [.slice x_8.a0 m_9.s.length x_8.c0, .slice x_8.a1 m_9.r.length x_8.c1, .slice x_8.a2 m_9.w.length x_8.c2]) rfl rfl rfl rfl Tryz.sizeOf29 rfl rfl (Nat.le_of_ble_eq_true rfl) rfl) ?_
  rintro _ _ rfl
  refine JL.nil ?_
  refine JQ.seq ?_
  refine JC.seq ?_
  refine JC.seq ?_
  refine JC.region ?_
  refine JL.pure rfl (PO.assign (v := .int .i64 0) rfl) ?_
  refine JL.nil ?_
  refine JQ.seq ?_
  refine JC.block ?_
  refine JC.loop (fun k_ e_ L_ => ∃ i_ : Nat, ∃ p_q : Nat, ∃ s_q : Int, ∃ x1 : MA, ∃ mm : MS, (p_q ≤ ql.length) ∧ (mm.ok (8 + i_) (i_)) ∧ (i_ ≤ 4) ∧ e_ 0 = .pointer (some ⟨qb, 0, none⟩) ∧ e_ 2 = .pointer (some ⟨b_1, 0, none⟩) ∧ e_ 3 = .pointer (some ⟨b_12, 0, none⟩) ∧ e_ 4 = .int .i64 ((i_ : Nat) : Int) ∧ L_ = [mb b_12 x1 mm, rC x1.a0 x1.c0 mm.s, rS x1.a1 x1.c1 mm.r, rS x1.a2 x1.c2 mm.w, cb qb qa qc ql p_q s_q, rC l_5a l_5c l_5, bk b_1 29 [.slice none 0 0, .slice none 0 0, .slice none 0 0]] ∧ k_ = 5 - i_) _ ⟨0, qp_2, qs_3, x_8, m_9, (by omega), (k_10.mono (by omega) (by omega)), (by omega), rfl, rfl, rfl, rfl, rfl, rfl⟩ ?_
  rintro _ e_13 _ ⟨i_, p_q, s_q, x1, mm, hpq_, hkmm, hi, he_14, he_15, he_16, he_17, rfl, rfl⟩
  refine JC.seq ?_
  refine JC.seq ?_
  refine JC.region ?_
  refine JL.pure rfl (PO.move (v := .int .i64 ((i_ : Nat) : Int)) he_17) ?_
  refine JL.pure rfl (PO.move (v := .pointer (some ⟨qb, 0, none⟩)) he_14) ?_
  refine JL.op rfl (JO.call [4] Tryz.call68 rfl (D_below qb qa qc ql p_q s_q (by omega) (by omega) 4 (by omega)) rfl (fun w hw => ⟨hw.seeOut_ hs_qa (hpre.2), hw.apart hs_qa (hpre.2) (by simp)⟩)) ?_
  rintro _ _ ⟨_, ⟨qp_18, qs_19, n_21, fq_20, f_22, rfl, rfl⟩, rfl⟩
  refine JL.pure rfl (PO.lss rfl rfl) ?_
  refine JL.nil ?_
  refine JQ.seq ?_
  by_cases h_24 : ((i_ : Nat) : Int) < ((n_21 : Nat) : Int)
  · skip
    refine JC.condT (congrArg Value.bool (decide_eq_true h_24)) ?_
    refine JC.skip ?_
    refine JQ.seq ?_
    refine JC.seq ?_
    refine JC.block ?_
    refine JC.seq ?_
    refine JC.region ?_
    refine JL.pure rfl (PO.move (v := .pointer (some ⟨qb, 0, none⟩)) he_14) ?_
    refine JL.op rfl (JO.call [0] Tryz.call68 rfl (D_below qb qa qc ql qp_18 qs_19 (by omega) (by omega) 3 (by omega)) rfl (fun w hw => ⟨hw.seeOut_ hs_qa (hpre.2), hw.apart hs_qa (hpre.2) (by simp)⟩)) ?_
    rintro _ _ ⟨_, ⟨qp_25, qs_26, n_28, fq_27, f_29, rfl, rfl⟩, rfl⟩
    refine JL.nil ?_
    refine JQ.seq ?_
    refine JC.block ?_
    refine JC.seq ?_
    refine JC.region ?_
    refine JL.pure rfl (PO.eqlI rfl rfl) ?_
    refine JL.pure rfl (PO.assign (v := .bool (decide (((n_28 : Nat) : Int) = 0))) rfl) ?_
    refine JL.nil ?_
    refine JQ.seq ?_
    by_cases h_31 : ((n_28 : Nat) : Int) = 0
    · skip
      refine JC.condT (congrArg Value.bool (decide_eq_true h_31)) ?_
      refine JC.regionA [mb b_12 x1 mm] 7 mixed (by simp) ?_
      refine JA.take 0 rfl (by kernel_rfl) (NP.bl (NP.bl (NP.th (NP.th (NP.bl (NP.th NP.body)))))) (by kernel_rfl) (by kernel_rfl) (by kernel_rfl) rfl (LO.loadK 0 (vs := [.slice x1.a0 mm.s.length x1.c0, .slice x1.a1 mm.r.length x1.c1, .slice x1.a2 mm.w.length x1.c2]) rfl he_16 Tryz.isAgg29 Tryz.sizeOf29 rfl rfl) ?_
      refine JA.takeP 1 rfl (by kernel_rfl) (NP.bl (NP.bl (NP.th (NP.th (NP.bl (NP.th NP.body)))))) (by kernel_rfl) (by kernel_rfl) rfl (PO.move (v := .pointer (some ⟨qb, 0, none⟩)) he_14) ?_
      refine JA.one (i := 2) (by kernel_rfl) ?_
      refine JX.op rfl rfl (JO.call [0] Tryz.call77 rfl (D_key qb qa qc ql qp_25 qs_26 (by omega) (by omega)) rfl (fun w hw => ⟨hw.seeOut_ hs_qa (hpre.2), hw.apart hs_qa (hpre.2) (by simp)⟩)) ?_
      rintro _ _ ⟨_, ⟨qp_38, qs_39, u_41, fq_40, f_42, rfl, rfl⟩, rfl⟩
      refine ⟨(by simp), ?_⟩
      refine JA.one (i := 3) (by kernel_rfl) ?_
      refine JX.op rfl rfl (JO.call [2, 2, 2] Tryz.call71 rfl (N_sLook x1 mm hkmm (by omega) (by omega) u_41) rfl (fun _ _ => trivial)) ?_
      rintro _ _ ⟨_, ⟨x_52, m_53, u_54, e_50, k_51, f_55, rfl, rfl⟩, rfl⟩
      refine ⟨(by simp), ?_⟩
      refine JA.takeP 4 rfl (by kernel_rfl) (NP.bl (NP.bl (NP.th (NP.th (NP.bl (NP.th NP.body)))))) (by kernel_rfl) (by kernel_rfl) rfl (PO.move (v := .tuple #[mv x_52 m_53, str u_54]) rfl) ?_
      refine JA.takeP 5 rfl (by kernel_rfl) (NP.bl (NP.bl (NP.th (NP.th (NP.bl (NP.th NP.body)))))) (by kernel_rfl) (by kernel_rfl) rfl (PO.extract (v := mv x_52 m_53) rfl rfl) ?_
      refine JA.takeP 6 rfl (by kernel_rfl) (NP.bl (NP.bl (NP.th (NP.th (NP.bl (NP.th NP.body)))))) (by kernel_rfl) (by kernel_rfl) rfl (PO.extract (v := str u_54) rfl rfl) ?_
      refine JA.one (i := 7) (by kernel_rfl) ?_
      refine JX.last rfl rfl (by decide) (by kernel_rfl) (JO.store 4 (vs := [.slice x_52.a0 m_53.s.length x_52.c0, .slice x_52.a1 m_53.r.length x_52.c1, .slice x_52.a2 m_53.w.length x_52.c2]) (cs' := [.slice x_52.a0 m_53.s.length x_52.c0, .slice x_52.a1 m_53.r.length x_52.c1, .slice x_52.a2 m_53.w.length x_52.c2]) rfl he_16 rfl rfl Tryz.sizeOf29 rfl rfl (Nat.le_of_ble_eq_true rfl) rfl) ?_
      rintro _ _ rfl
      refine JQ.blockN ?_
      refine JQ.blockN ?_
      refine JQ.seq ?_
      refine JC.region ?_
      refine JL.pure rfl (PO.move (v := .int .i64 ((i_ : Nat) : Int)) he_17) ?_
      refine JL.pure rfl (PO.add (c := ((i_ + 1 : Nat) : Int)) rfl rfl (wr (by omega))) ?_
      refine JL.pure rfl (PO.assign (v := .int .i64 ((i_ + 1 : Nat) : Int)) rfl) ?_
      refine JL.nil ?_
      refine JQ.pick [4, 0, 0, 0, 0, 0, 0] (A := [mb b_12 x_52 m_53, rC x_52.a0 x_52.c0 m_53.s, rS x_52.a1 x_52.c1 m_53.r, rS x_52.a2 x_52.c2 m_53.w, cb qb qa qc ql qp_38 qs_39, rC l_5a l_5c l_5, bk b_1 29 [.slice none 0 0, .slice none 0 0, .slice none 0 0]]) rfl ?_
      refine JQ.again (5 - (i_ + 1)) (by omega) ⟨(i_ + 1), qp_38, qs_39, x_52, m_53, (by omega), (k_51.mono (by omega) (by omega)), (by omega), he_14, he_15, he_16, rfl, rfl, rfl⟩
    · skip
      refine JC.condF (congrArg Value.bool (decide_eq_false h_31)) ?_
      refine JC.seq ?_
      refine JC.region ?_
      refine JL.pure rfl (PO.eqlI rfl rfl) ?_
      refine JL.pure rfl (PO.assign (v := .bool (decide (((n_28 : Nat) : Int) = 1))) rfl) ?_
      refine JL.nil ?_
      refine JQ.seq ?_
      by_cases h_56 : ((n_28 : Nat) : Int) = 1
      · skip
        refine JC.condT (congrArg Value.bool (decide_eq_true h_56)) ?_
        refine JC.region ?_
        refine JL.ld rfl (LO.loadK 1 (vs := [.slice x1.a0 mm.s.length x1.c0, .slice x1.a1 mm.r.length x1.c1, .slice x1.a2 mm.w.length x1.c2]) rfl he_16 Tryz.isAgg29 Tryz.sizeOf29 rfl rfl) ?_
        refine JL.op rfl (JO.call [2, 2, 2] Tryz.call93 rfl (N_sUnder x1 mm hkmm (by omega) (by omega) [110, 47] (by decide)) rfl (fun _ _ => trivial)) ?_
        rintro _ _ ⟨_, ⟨x_59, m_60, l_61a, l_61c, l_61, e_57, k_58, f_62, rfl, rfl⟩, rfl⟩
        refine JL.pure rfl (PO.move (v := .tuple #[mv x_59 m_60, .slice l_61a l_61.length l_61c]) rfl) ?_
        refine JL.pure rfl (PO.extract (v := mv x_59 m_60) rfl rfl) ?_
        refine JL.pure rfl (PO.extract (v := .slice l_61a l_61.length l_61c) rfl rfl) ?_
        refine JL.op rfl (JO.store 5 (vs := [.slice x_59.a0 m_60.s.length x_59.c0, .slice x_59.a1 m_60.r.length x_59.c1, .slice x_59.a2 m_60.w.length x_59.c2]) (cs' := [.slice x_59.a0 m_60.s.length x_59.c0, .slice x_59.a1 m_60.r.length x_59.c1, .slice x_59.a2 m_60.w.length x_59.c2]) rfl he_16 rfl rfl Tryz.sizeOf29 rfl rfl (Nat.le_of_ble_eq_true rfl) rfl) ?_
        rintro _ _ rfl
        refine JL.nil ?_
        refine JQ.blockN ?_
        refine JQ.blockN ?_
        refine JQ.seq ?_
        refine JC.region ?_
        refine JL.pure rfl (PO.move (v := .int .i64 ((i_ : Nat) : Int)) he_17) ?_
        refine JL.pure rfl (PO.add (c := ((i_ + 1 : Nat) : Int)) rfl rfl (wr (by omega))) ?_
        refine JL.pure rfl (PO.assign (v := .int .i64 ((i_ + 1 : Nat) : Int)) rfl) ?_
        refine JL.nil ?_
        refine JQ.pick [5, 0, 0, 0, 1, 1, 1] (A := [mb b_12 x_59 m_60, rC x_59.a0 x_59.c0 m_60.s, rS x_59.a1 x_59.c1 m_60.r, rS x_59.a2 x_59.c2 m_60.w, cb qb qa qc ql qp_25 qs_26, rC l_5a l_5c l_5, bk b_1 29 [.slice none 0 0, .slice none 0 0, .slice none 0 0]]) rfl ?_
        refine JQ.again (5 - (i_ + 1)) (by omega) ⟨(i_ + 1), qp_25, qs_26, x_59, m_60, (by omega), (k_58.mono (by omega) (by omega)), (by omega), he_14, he_15, he_16, rfl, rfl, rfl⟩
      · skip
        refine JC.condF (congrArg Value.bool (decide_eq_false h_56)) ?_
        refine JC.regionA [mb b_12 x1 mm] 5 mixed (by simp) ?_
        refine JA.take 0 rfl (by kernel_rfl) (NP.bl (NP.bl (NP.th (NP.th (NP.bl (NP.th NP.body)))))) (by kernel_rfl) (by kernel_rfl) (by kernel_rfl) rfl (LO.loadK 0 (vs := [.slice x1.a0 mm.s.length x1.c0, .slice x1.a1 mm.r.length x1.c1, .slice x1.a2 mm.w.length x1.c2]) rfl he_16 Tryz.isAgg29 Tryz.sizeOf29 rfl rfl) ?_
        refine JA.takeP 1 rfl (by kernel_rfl) (NP.bl (NP.bl (NP.th (NP.th (NP.bl (NP.th NP.body)))))) (by kernel_rfl) (by kernel_rfl) rfl (PO.move (v := .pointer (some ⟨qb, 0, none⟩)) he_14) ?_
        refine JA.takeP 3 rfl (by kernel_rfl) (NP.bl (NP.bl (NP.th (NP.th (NP.bl (NP.th NP.body)))))) (by kernel_rfl) (by kernel_rfl) rfl (PO.move (v := .pointer (some ⟨qb, 0, none⟩)) he_14) ?_
        refine JA.one (i := 2) (by kernel_rfl) ?_
        refine JX.op rfl rfl (JO.call [0] Tryz.call77 rfl (D_key qb qa qc ql qp_25 qs_26 (by omega) (by omega)) rfl (fun w hw => ⟨hw.seeOut_ hs_qa (hpre.2), hw.apart hs_qa (hpre.2) (by simp)⟩)) ?_
        rintro _ _ ⟨_, ⟨qp_75, qs_76, u_78, fq_77, f_79, rfl, rfl⟩, rfl⟩
        refine ⟨(by simp), ?_⟩
        refine JA.one (i := 4) (by kernel_rfl) ?_
        refine JX.op rfl rfl (JO.call [0] Tryz.call97 rfl (D_val qb qa qc ql qp_75 qs_76 (by omega) (by omega)) rfl (fun w hw => ⟨hw.seeOut_ hs_qa (hpre.2), hw.apart hs_qa (hpre.2) (by simp)⟩)) ?_
        rintro _ _ ⟨_, ⟨qp_87, qs_88, u_90, fq_89, f_91, rfl, rfl⟩, rfl⟩
        refine ⟨(by simp), ?_⟩
        refine JA.one (i := 5) (by kernel_rfl) ?_
        refine JX.late rfl rfl (by decide) (by kernel_rfl) (JO.call [2, 2, 2] Tryz.call72 rfl (N_sLay x1 mm hkmm (by omega) (by omega) u_78 u_90 (by omega)) rfl (fun _ _ => trivial)) ?_
        rintro _ _ ⟨_, ⟨x_99, m_100, e_97, k_98, rfl, rfl⟩, rfl⟩
        refine JA.one (i := 6) (by kernel_rfl) ?_
        refine JX.last rfl rfl (by decide) (by kernel_rfl) (JO.store 4 (vs := [.slice x_99.a0 m_100.s.length x_99.c0, .slice x_99.a1 m_100.r.length x_99.c1, .slice x_99.a2 m_100.w.length x_99.c2]) (cs' := [.slice x_99.a0 m_100.s.length x_99.c0, .slice x_99.a1 m_100.r.length x_99.c1, .slice x_99.a2 m_100.w.length x_99.c2]) rfl he_16 rfl rfl Tryz.sizeOf29 rfl rfl (Nat.le_of_ble_eq_true rfl) rfl) ?_
        rintro _ _ rfl
        refine JQ.blockN ?_
        refine JQ.blockN ?_
        refine JQ.seq ?_
        refine JC.region ?_
        refine JL.pure rfl (PO.move (v := .int .i64 ((i_ : Nat) : Int)) he_17) ?_
        refine JL.pure rfl (PO.add (c := ((i_ + 1 : Nat) : Int)) rfl rfl (wr (by omega))) ?_
        refine JL.pure rfl (PO.assign (v := .int .i64 ((i_ + 1 : Nat) : Int)) rfl) ?_
        refine JL.nil ?_
        refine JQ.pick [4, 0, 0, 0, 0, 0, 0] (A := [mb b_12 x_99 m_100, rC x_99.a0 x_99.c0 m_100.s, rS x_99.a1 x_99.c1 m_100.r, rS x_99.a2 x_99.c2 m_100.w, cb qb qa qc ql qp_87 qs_88, rC l_5a l_5c l_5, bk b_1 29 [.slice none 0 0, .slice none 0 0, .slice none 0 0]]) rfl ?_
        refine JQ.again (5 - (i_ + 1)) (by omega) ⟨(i_ + 1), qp_87, qs_88, x_99, m_100, (by omega), (k_98.mono (by omega) (by omega)), (by omega), he_14, he_15, he_16, rfl, rfl, rfl⟩
  · skip
    refine JC.condF (congrArg Value.bool (decide_eq_false h_24)) ?_
    refine JC.exit ?_
    refine JQ.thenExit ?_
    refine JQ.thenExit ?_
    refine JQ.blockE ?_
    refine JQ.seq ?_
    refine JC.seq ?_
    refine JC.region ?_
    refine JL.ld rfl (LO.loadK 1 (vs := [.slice x1.a0 mm.s.length x1.c0, .slice x1.a1 mm.r.length x1.c1, .slice x1.a2 mm.w.length x1.c2]) rfl he_16 Tryz.isAgg29 Tryz.sizeOf29 rfl rfl) ?_
    refine JL.op rfl (JO.store 6 (vs := [.slice x1.a0 mm.s.length x1.c0, .slice x1.a1 mm.r.length x1.c1, .slice x1.a2 mm.w.length x1.c2]) (cs' := [.slice x1.a0 mm.s.length x1.c0, .slice x1.a1 mm.r.length x1.c1, .slice x1.a2 mm.w.length x1.c2]) rfl he_15 rfl rfl Tryz.sizeOf29 rfl rfl (Nat.le_of_ble_eq_true rfl) rfl) ?_
    rintro _ _ rfl
    refine JL.nil ?_
    refine JQ.seq ?_
    refine JC.ret ?_
    refine JQ.perm (pick_perm [0, 1, 1, 1] (A := [cb qb qa qc ql qp_18 qs_19, rC x1.a0 x1.c0 mm.s, rS x1.a1 x1.c1 mm.r, rS x1.a2 x1.c2 mm.w]) (F := [mb b_12 x1 mm, rC l_5a l_5c l_5, mb b_1 x1 mm]) rfl).symm ?_
    refine Done.one (.inl rfl) rfl (RV.cell1 (LO.loadK 6 (vs := [.slice x1.a0 mm.s.length x1.c0, .slice x1.a1 mm.r.length x1.c1, .slice x1.a2 mm.w.length x1.c2]) rfl he_15 Tryz.isAgg29 Tryz.sizeOf29 rfl rfl) ⟨_, he_15⟩) (List.sublist_append_left [cb qb qa qc ql qp_18 qs_19, rC x1.a0 x1.c0 mm.s, rS x1.a1 x1.c1 mm.r, rS x1.a2 x1.c2 mm.w] [mb b_12 x1 mm, rC l_5a l_5c l_5, mb b_1 x1 mm]) ?_
    exact ⟨qp_18, qs_19, x1, mm, (by omega), (hkmm.mono (by omega) (by omega)), rfl, rfl⟩

theorem D_mach05 (qb : Nat) (qa : Option Addr) (qc : Nat) (ql : Str) (qp : Nat) (qs : Int) (hql : ql.length ≤ 1048576) (hqp : qp ≤ ql.length)  :
    Ct Tryz.prog 35 [.pointer (some ⟨qb, 0, none⟩)] [cb qb qa qc ql qp qs] (fun w => seesC w qa qc ql [cb qb qa qc ql qp qs]) (fun v A' => ∃ qp' qs' r0x r0, qp' ≤ ql.length ∧ r0.ok (13) (5) ∧ v = mv r0x r0 ∧ A' = cb qb qa qc ql qp' qs' :: mr r0x r0) := by
  refine Ct.intro Tryz.func35 rfl Tryz.ntmps35 (Nat.le_of_ble_eq_true rfl) fun w0 hpre => ?_
  have hs_qa : Sees w0 _ _ _ _ := hpre.1
  refine JC.seq ?_
  refine JC.region ?_
  refine JL.op rfl (JO.alloc (z := .agg #[.slice none 0 0, .slice none 0 0, .slice none 0 0]) (cs := [.slice none 0 0, .slice none 0 0, .slice none 0 0]) Tryz.zeroValue29 rfl) ?_
  rintro _ _ ⟨b_1, rfl, rfl⟩
  refine JL.nil ?_
  refine JQ.seq ?_
  refine JC.seq ?_
  refine JC.region ?_
  refine JL.pure rfl (PO.move (v := .pointer (some ⟨qb, 0, none⟩)) rfl) ?_
  refine JL.op rfl (JO.call [1] Tryz.call67 rfl (D_mach04 qb qa qc ql qp qs (by omega) (by omega)) rfl (fun w hw => ⟨hw.seeOut_ hs_qa (hpre.2), hw.apart hs_qa (hpre.2) (by simp)⟩)) ?_
  rintro _ _ ⟨_, ⟨qp_2, qs_3, x_5, m_6, fq_4, k_7, rfl, rfl⟩, rfl⟩
  refine JL.op rfl (JO.alloc (z := .agg #[.slice none 0 0, .slice none 0 0, .slice none 0 0]) (cs := [.slice none 0 0, .slice none 0 0, .slice none 0 0]) Tryz.zeroValue29 rfl) ?_
  rintro _ _ ⟨b_9, rfl, rfl⟩
  refine JL.op rfl (JO.store 0 (vs := [.slice x_5.a0 m_6.s.length x_5.c0, .slice x_5.a1 m_6.r.length x_5.c1, .slice x_5.a2 m_6.w.length x_5.c2]) (cs' := [.slice x_5.a0 m_6.s.length x_5.c0, .slice x_5.a1 m_6.r.length x_5.c1, .slice x_5.a2 m_6.w.length x_5.c2]) rfl rfl rfl rfl Tryz.sizeOf29 rfl rfl (Nat.le_of_ble_eq_true rfl) rfl) ?_
  rintro _ _ rfl
  refine JL.nil ?_
  refine JQ.seq ?_
  refine JC.seq ?_
  refine JC.seq ?_
  refine JC.region ?_
  refine JL.pure rfl (PO.move (v := .pointer (some ⟨qb, 0, none⟩)) rfl) ?_
  refine JL.op rfl (JO.call [1] Tryz.call68 rfl (D_below qb qa qc ql qp_2 qs_3 (by omega) (by omega) 4 (by omega)) rfl (fun w hw => ⟨hw.seeOut_ hs_qa (hpre.2), hw.apart hs_qa (hpre.2) (by simp)⟩)) ?_
  rintro _ _ ⟨_, ⟨qp_10, qs_11, n_13, fq_12, f_14, rfl, rfl⟩, rfl⟩
  refine JL.nil ?_
  refine JQ.seq ?_
  refine JC.block ?_
  refine JC.seq ?_
  refine JC.region ?_
  refine JL.pure rfl (PO.eqlI rfl rfl) ?_
  refine JL.pure rfl (PO.assign (v := .bool (decide (((n_13 : Nat) : Int) = 0))) rfl) ?_
  refine JL.nil ?_
  refine JQ.seq ?_
  by_cases h_16 : ((n_13 : Nat) : Int) = 0
  · skip
    refine JC.condT (congrArg Value.bool (decide_eq_true h_16)) ?_
    refine JC.seq ?_
    refine JC.region ?_
    refine JL.ld rfl (LO.loadK 1 (vs := [.slice x_5.a0 m_6.s.length x_5.c0, .slice x_5.a1 m_6.r.length x_5.c1, .slice x_5.a2 m_6.w.length x_5.c2]) rfl rfl Tryz.isAgg29 Tryz.sizeOf29 rfl rfl) ?_
    refine JL.op rfl (JO.store 5 (vs := [.slice x_5.a0 m_6.s.length x_5.c0, .slice x_5.a1 m_6.r.length x_5.c1, .slice x_5.a2 m_6.w.length x_5.c2]) (cs' := [.slice x_5.a0 m_6.s.length x_5.c0, .slice x_5.a1 m_6.r.length x_5.c1, .slice x_5.a2 m_6.w.length x_5.c2]) rfl rfl rfl rfl Tryz.sizeOf29 rfl rfl (Nat.le_of_ble_eq_true rfl) rfl) ?_
    rintro _ _ rfl
    refine JL.nil ?_
    refine JQ.seq ?_
    refine JC.ret ?_
    refine JQ.blockRet ?_
    refine JQ.thenRet ?_
    refine JQ.perm (pick_perm [0, 1, 1, 1] (A := [cb qb qa qc ql qp_10 qs_11, rC x_5.a0 x_5.c0 m_6.s, rS x_5.a1 x_5.c1 m_6.r, rS x_5.a2 x_5.c2 m_6.w]) (F := [mb b_9 x_5 m_6, mb b_1 x_5 m_6]) rfl).symm ?_
    refine Done.one (.inl rfl) rfl (RV.cell1 (LO.loadK 5 (vs := [.slice x_5.a0 m_6.s.length x_5.c0, .slice x_5.a1 m_6.r.length x_5.c1, .slice x_5.a2 m_6.w.length x_5.c2]) rfl rfl Tryz.isAgg29 Tryz.sizeOf29 rfl rfl) ⟨_, rfl⟩) (List.sublist_append_left [cb qb qa qc ql qp_10 qs_11, rC x_5.a0 x_5.c0 m_6.s, rS x_5.a1 x_5.c1 m_6.r, rS x_5.a2 x_5.c2 m_6.w] [mb b_9 x_5 m_6, mb b_1 x_5 m_6]) ?_
    exact ⟨qp_10, qs_11, x_5, m_6, (by omega), (k_7.mono (by omega) (by omega)), rfl, rfl⟩
  · skip
    refine JC.condF (congrArg Value.bool (decide_eq_false h_16)) ?_
    refine JC.seq ?_
    refine JC.region ?_
    refine JL.pure rfl (PO.eqlI rfl rfl) ?_
    refine JL.pure rfl (PO.assign (v := .bool (decide (((n_13 : Nat) : Int) = 1))) rfl) ?_
    refine JL.nil ?_
    refine JQ.seq ?_
    by_cases h_17 : ((n_13 : Nat) : Int) = 1
    · skip
      refine JC.condT (congrArg Value.bool (decide_eq_true h_17)) ?_
      refine JC.seq ?_
      refine JC.region ?_
      refine JL.ld rfl (LO.loadK 1 (vs := [.slice x_5.a0 m_6.s.length x_5.c0, .slice x_5.a1 m_6.r.length x_5.c1, .slice x_5.a2 m_6.w.length x_5.c2]) rfl rfl Tryz.isAgg29 Tryz.sizeOf29 rfl rfl) ?_
      refine JL.op rfl (JO.call [2, 2, 2] Tryz.call48 rfl (N_sSetNum x_5 m_6 k_7 (by omega) (by omega) [99, 47, 112, 105, 112, 101] 999 (by decide) (by omega)) rfl (fun _ _ => trivial)) ?_
      rintro _ _ ⟨_, ⟨x_20, m_21, e_18, k_19, rfl, rfl⟩, rfl⟩
      refine JL.op rfl (JO.store 5 (vs := [.slice x_20.a0 m_21.s.length x_20.c0, .slice x_20.a1 m_21.r.length x_20.c1, .slice x_20.a2 m_21.w.length x_20.c2]) (cs' := [.slice x_20.a0 m_21.s.length x_20.c0, .slice x_20.a1 m_21.r.length x_20.c1, .slice x_20.a2 m_21.w.length x_20.c2]) rfl rfl rfl rfl Tryz.sizeOf29 rfl rfl (Nat.le_of_ble_eq_true rfl) rfl) ?_
      rintro _ _ rfl
      refine JL.nil ?_
      refine JQ.seq ?_
      refine JC.ret ?_
      refine JQ.blockRet ?_
      refine JQ.thenRet ?_
      refine JQ.perm (pick_perm [3, 0, 0, 0] (A := [cb qb qa qc ql qp_10 qs_11, rC x_20.a0 x_20.c0 m_21.s, rS x_20.a1 x_20.c1 m_21.r, rS x_20.a2 x_20.c2 m_21.w]) (F := [mb b_9 x_5 m_6, mb b_1 x_20 m_21]) rfl).symm ?_
      refine Done.one (.inl rfl) rfl (RV.cell1 (LO.loadK 5 (vs := [.slice x_20.a0 m_21.s.length x_20.c0, .slice x_20.a1 m_21.r.length x_20.c1, .slice x_20.a2 m_21.w.length x_20.c2]) rfl rfl Tryz.isAgg29 Tryz.sizeOf29 rfl rfl) ⟨_, rfl⟩) (List.sublist_append_left [cb qb qa qc ql qp_10 qs_11, rC x_20.a0 x_20.c0 m_21.s, rS x_20.a1 x_20.c1 m_21.r, rS x_20.a2 x_20.c2 m_21.w] [mb b_9 x_5 m_6, mb b_1 x_20 m_21]) ?_
      exact ⟨qp_10, qs_11, x_20, m_21, (by omega), (k_19.mono (by omega) (by omega)), rfl, rfl⟩
    · skip
      refine JC.condF (congrArg Value.bool (decide_eq_false h_17)) ?_
      refine JC.skip ?_
      refine JQ.blockN ?_
      refine JQ.seq ?_
      refine JC.seq ?_
      refine JC.regionA [mb b_9 x_5 m_6] 4 mixed (by simp) ?_
      refine JA.take 0 rfl (by kernel_rfl) (NP.th NP.body) (by kernel_rfl) (by kernel_rfl) (by kernel_rfl) rfl (LO.loadK 0 (vs := [.slice x_5.a0 m_6.s.length x_5.c0, .slice x_5.a1 m_6.r.length x_5.c1, .slice x_5.a2 m_6.w.length x_5.c2]) rfl rfl Tryz.isAgg29 Tryz.sizeOf29 rfl rfl) ?_
      refine JA.takeP 1 rfl (by kernel_rfl) (NP.th NP.body) (by kernel_rfl) (by kernel_rfl) rfl (PO.move (v := .pointer (some ⟨qb, 0, none⟩)) rfl) ?_
      refine JA.one (i := 2) (by kernel_rfl) ?_
      refine JX.op rfl rfl (JO.call [0] Tryz.call68 rfl (D_below qb qa qc ql qp_10 qs_11 (by omega) (by omega) 30 (by omega)) rfl (fun w hw => ⟨hw.seeOut_ hs_qa (hpre.2), hw.apart hs_qa (hpre.2) (by simp)⟩)) ?_
      rintro _ _ ⟨_, ⟨qp_28, qs_29, n_31, fq_30, f_32, rfl, rfl⟩, rfl⟩
      refine ⟨(by simp), ?_⟩
      refine JA.takeP 3 rfl (by kernel_rfl) (NP.th NP.body) (by kernel_rfl) (by kernel_rfl) rfl (PO.add (c := ((1 + n_31 : Nat) : Int)) rfl rfl (wr (by omega))) ?_
      refine JA.one (i := 4) (by kernel_rfl) ?_
      refine JX.late rfl rfl (by decide) (by kernel_rfl) (JO.call [2, 2, 2] Tryz.call48 rfl (N_sSetNum x_5 m_6 k_7 (by omega) (by omega) [99, 47, 112, 105, 112, 101] ((1 + n_31 : Nat) : Int) (by decide) (by omega)) rfl (fun _ _ => trivial)) ?_
      rintro _ _ ⟨_, ⟨x_40, m_41, e_38, k_39, rfl, rfl⟩, rfl⟩
      refine JA.one (i := 5) (by kernel_rfl) ?_
      refine JX.last rfl rfl (by decide) (by kernel_rfl) (JO.store 5 (vs := [.slice x_40.a0 m_41.s.length x_40.c0, .slice x_40.a1 m_41.r.length x_40.c1, .slice x_40.a2 m_41.w.length x_40.c2]) (cs' := [.slice x_40.a0 m_41.s.length x_40.c0, .slice x_40.a1 m_41.r.length x_40.c1, .slice x_40.a2 m_41.w.length x_40.c2]) rfl rfl rfl rfl Tryz.sizeOf29 rfl rfl (Nat.le_of_ble_eq_true rfl) rfl) ?_
      rintro _ _ rfl
      refine JQ.seq ?_
      refine JC.ret ?_
      refine JQ.perm (pick_perm [3, 0, 0, 0] (A := [cb qb qa qc ql qp_28 qs_29, rC x_40.a0 x_40.c0 m_41.s, rS x_40.a1 x_40.c1 m_41.r, rS x_40.a2 x_40.c2 m_41.w]) (F := [mb b_9 x_5 m_6, mb b_1 x_40 m_41]) rfl).symm ?_
      refine Done.one (.inl rfl) rfl (RV.cell1 (LO.loadK 5 (vs := [.slice x_40.a0 m_41.s.length x_40.c0, .slice x_40.a1 m_41.r.length x_40.c1, .slice x_40.a2 m_41.w.length x_40.c2]) rfl rfl Tryz.isAgg29 Tryz.sizeOf29 rfl rfl) ⟨_, rfl⟩) (List.sublist_append_left [cb qb qa qc ql qp_28 qs_29, rC x_40.a0 x_40.c0 m_41.s, rS x_40.a1 x_40.c1 m_41.r, rS x_40.a2 x_40.c2 m_41.w] [mb b_9 x_5 m_6, mb b_1 x_40 m_41]) ?_
      exact ⟨qp_28, qs_29, x_40, m_41, (by omega), (k_39.mono (by omega) (by omega)), rfl, rfl⟩

theorem D_drawBumped (pa : Option Addr) (pc : Nat) (p : Str) (hp : p.length ≤ 1048576)  :
    Ct Tryz.prog 7 [.slice pa p.length pc] [] (fun w => Sees w (.slice pa p.length pc) 1 p.length (p.map encB)) (fun v A' => ∃ r0x r0 r1, r0.ok (13) (5) ∧ (r1.length ≤ 64) ∧ v = .tuple #[mv r0x r0, str r1] ∧ A' = mr r0x r0) := by
  refine Ct.intro Tryz.func7 rfl Tryz.ntmps7 (Nat.le_of_ble_eq_true rfl) fun w0 hpre => ?_
  have hs_pa : Sees w0 _ _ _ _ := hpre
  refine JC.seq ?_
  refine JC.region ?_
  refine JL.op rfl (JO.alloc (z := .agg #[.slice none 0 0, .slice none 0 0, .slice none 0 0]) (cs := [.slice none 0 0, .slice none 0 0, .slice none 0 0]) Tryz.zeroValue29 rfl) ?_
  rintro _ _ ⟨b_1, rfl, rfl⟩
  refine JL.pure rfl (PO.assign (v := str []) rfl) ?_
  refine JL.nil ?_
  refine JQ.seq ?_
  refine JC.seq ?_
  refine JC.region ?_
  refine JL.pure rfl (PO.move (v := .slice pa p.length pc) rfl) ?_
  refine JL.op rfl (JO.call [] Tryz.call34 rfl (D_new pa pc p (by omega)) rfl (fun w hw => hw.seeOut_ hs_pa (fun _ _ => List.not_mem_nil))) ?_
  rintro _ _ ⟨_, ⟨c_2, qs_3, -, rfl, rfl⟩, rfl⟩
  refine JL.pure rfl (PO.assign (v := .pointer (some ⟨c_2, 0, none⟩)) rfl) ?_
  refine JL.nil ?_
  refine JQ.seq ?_
  refine JC.seq ?_
  refine JC.region ?_
  refine JL.pure rfl (PO.move (v := .pointer (some ⟨c_2, 0, none⟩)) rfl) ?_
  refine JL.op rfl (JO.call [0] Tryz.call35 rfl (D_mach05 c_2 pa pc p 0 qs_3 (by omega) (by omega)) rfl (fun w hw => ⟨hw.seeOut_ hs_pa (fun _ _ => List.not_mem_nil), hw.apart hs_pa (fun _ _ => List.not_mem_nil) (by simp)⟩)) ?_
  rintro _ _ ⟨_, ⟨qp_5, qs_6, x_8, m_9, fq_7, k_10, rfl, rfl⟩, rfl⟩
  refine JL.pure rfl (PO.move (v := .pointer (some ⟨c_2, 0, none⟩)) rfl) ?_
  refine JL.op rfl (JO.buildSlice (ps := [(0, str [99, 47, 112, 105, 112, 101]), (1, str [99, 47, 112, 105, 112, 101]), (2, str [97]), (3, str [110, 47, 120]), (4, str [110, 47, 42]), (5, str [])]) (cur := #[str [99, 47, 112, 105, 112, 101], str [99, 47, 112, 105, 112, 101], str [97], str [110, 47, 120], str [110, 47, 42], str []]) Tryz.underlying25 Tryz.sizeOf9 Tryz.zeroValue9 rfl (by kernel_rfl) (by decide) (by decide)) ?_
  rintro _ _ ⟨a_12, rfl, rfl⟩
  refine JL.op rfl (JO.call [1, 0] Tryz.call36 rfl (D_pick c_2 pa pc p qp_5 qs_6 a_12 6 ([[99, 47, 112, 105, 112, 101], [99, 47, 112, 105, 112, 101], [97], [110, 47, 120], [110, 47, 42], []] : List Str) (by omega) (by omega) (by simp) (by simp)) rfl (fun w hw => ⟨hw.seeOut_ hs_pa (fun _ _ => List.not_mem_nil), hw.apart hs_pa (fun _ _ => List.not_mem_nil) (by simp)⟩)) ?_
  rintro _ _ ⟨_, ⟨qp_13, qs_14, u_16, fq_15, f_17, rfl, rfl⟩, rfl⟩
  have hlu_16 : u_16.length ≤ 64 := by have hx_ := f_17; simp only [List.mem_cons, List.not_mem_nil, or_false] at hx_; rcases hx_ with hx_ | hx_ | hx_ | hx_ | hx_ | hx_ <;> first | (rw [hx_]; decide) | (rw [hx_]; omega)
  refine JL.op rfl (JO.store 4 (vs := [.slice x_8.a0 m_9.s.length x_8.c0, .slice x_8.a1 m_9.r.length x_8.c1, .slice x_8.a2 m_9.w.length x_8.c2]) (cs' := [.slice x_8.a0 m_9.s.length x_8.c0, .slice x_8.a1 m_9.r.length x_8.c1, .slice x_8.a2 m_9.w.length x_8.c2]) rfl rfl rfl rfl Tryz.sizeOf29 rfl rfl (Nat.le_of_ble_eq_true rfl) rfl) ?_
  rintro _ _ rfl
  refine JL.pure rfl (PO.assign (v := str u_16) rfl) ?_
  refine JL.nil ?_
  refine JQ.seq ?_
  refine JC.ret ?_
  refine JQ.perm (pick_perm [1, 1, 1] (A := [rC x_8.a0 x_8.c0 m_9.s, rS x_8.a1 x_8.c1 m_9.r, rS x_8.a2 x_8.c2 m_9.w]) (F := [cb c_2 pa pc p qp_13 qs_14, mb b_1 x_8 m_9]) rfl).symm ?_
  refine Done.two (.inl rfl) rfl (RV.cell1 (LO.loadK 4 (vs := [.slice x_8.a0 m_9.s.length x_8.c0, .slice x_8.a1 m_9.r.length x_8.c1, .slice x_8.a2 m_9.w.length x_8.c2]) rfl rfl Tryz.isAgg29 Tryz.sizeOf29 rfl rfl) ⟨_, rfl⟩) (RV.tmp (v := str u_16) rfl) (List.sublist_append_left [rC x_8.a0 x_8.c0 m_9.s, rS x_8.a1 x_8.c1 m_9.r, rS x_8.a2 x_8.c2 m_9.w] [cb c_2 pa pc p qp_13 qs_14, mb b_1 x_8 m_9]) ?_
  exact ⟨x_8, m_9, u_16, (k_10.mono (by omega) (by omega)), (by first | omega | (simp only [List.length_append, List.length_cons, List.length_nil, List.length_take, List.length_drop]; omega)), rfl, rfl⟩

theorem D_drawSetNum (pa : Option Addr) (pc : Nat) (p : Str) (hp : p.length ≤ 1048576)  :
    Ct Tryz.prog 12 [.slice pa p.length pc] [] (fun w => Sees w (.slice pa p.length pc) 1 p.length (p.map encB)) (fun v A' => ∃ r0x r0 r1 r2, r0.ok (13) (5) ∧ (r1.length ≤ 64) ∧ (-9223372036854775808 ≤ r2 ∧ r2 ≤ 9223372036854775807) ∧ v = .tuple #[mv r0x r0, str r1, .int .i64 r2] ∧ A' = mr r0x r0) := by
  refine Ct.intro Tryz.func12 rfl Tryz.ntmps12 (Nat.le_of_ble_eq_true rfl) fun w0 hpre => ?_
  have hs_pa : Sees w0 _ _ _ _ := hpre
  refine JC.seq ?_
  refine JC.region ?_
  refine JL.op rfl (JO.alloc (z := .agg #[.slice none 0 0, .slice none 0 0, .slice none 0 0]) (cs := [.slice none 0 0, .slice none 0 0, .slice none 0 0]) Tryz.zeroValue29 rfl) ?_
  rintro _ _ ⟨b_1, rfl, rfl⟩
  refine JL.pure rfl (PO.assign (v := str []) rfl) ?_
  refine JL.pure rfl (PO.assign (v := .int .i64 0) rfl) ?_
  refine JL.nil ?_
  refine JQ.seq ?_
  refine JC.seq ?_
  refine JC.region ?_
  refine JL.pure rfl (PO.move (v := .slice pa p.length pc) rfl) ?_
  refine JL.op rfl (JO.call [] Tryz.call34 rfl (D_new pa pc p (by omega)) rfl (fun w hw => hw.seeOut_ hs_pa (fun _ _ => List.not_mem_nil))) ?_
  rintro _ _ ⟨_, ⟨c_2, qs_3, -, rfl, rfl⟩, rfl⟩
  refine JL.pure rfl (PO.assign (v := .pointer (some ⟨c_2, 0, none⟩)) rfl) ?_
  refine JL.nil ?_
  refine JQ.seq ?_
  refine JC.seq ?_
  refine JC.region ?_
  refine JL.pure rfl (PO.move (v := .pointer (some ⟨c_2, 0, none⟩)) rfl) ?_
  refine JL.op rfl (JO.call [0] Tryz.call35 rfl (D_mach05 c_2 pa pc p 0 qs_3 (by omega) (by omega)) rfl (fun w hw => ⟨hw.seeOut_ hs_pa (fun _ _ => List.not_mem_nil), hw.apart hs_pa (fun _ _ => List.not_mem_nil) (by simp)⟩)) ?_
  rintro _ _ ⟨_, ⟨qp_5, qs_6, x_8, m_9, fq_7, k_10, rfl, rfl⟩, rfl⟩
  refine JL.pure rfl (PO.move (v := .pointer (some ⟨c_2, 0, none⟩)) rfl) ?_
  refine JL.op rfl (JO.call [0] Tryz.call43 rfl (D_anyKey c_2 pa pc p qp_5 qs_6 (by omega) (by omega)) rfl (fun w hw => ⟨hw.seeOut_ hs_pa (fun _ _ => List.not_mem_nil), hw.apart hs_pa (fun _ _ => List.not_mem_nil) (by simp)⟩)) ?_
  rintro _ _ ⟨_, ⟨qp_12, qs_13, u_15, fq_14, f_16, rfl, rfl⟩, rfl⟩
  refine JL.pure rfl (PO.move (v := .pointer (some ⟨c_2, 0, none⟩)) rfl) ?_
  refine JL.op rfl (JO.buildSlice (ps := [(0, .int .i64 0), (1, .int .i64 1), (2, .int .i64 7), (3, .int .i64 999), (4, .int .i64 1000), (5, .int .i64 (-1)), (6, .int .i64 9223372036854775807)]) (cur := #[.int .i64 0, .int .i64 1, .int .i64 7, .int .i64 999, .int .i64 1000, .int .i64 (-1), .int .i64 9223372036854775807]) Tryz.underlying53 Tryz.sizeOf3 Tryz.zeroValue3 rfl (by kernel_rfl) (by decide) (by decide)) ?_
  rintro _ _ ⟨a_18, rfl, rfl⟩
  refine JL.op rfl (JO.call [1, 0] Tryz.call44 rfl (D_pickInt c_2 pa pc p qp_12 qs_13 a_18 7 ([0, 1, 7, 999, 1000, -1, 9223372036854775807] : List Int) (by omega) (by omega) (by simp) (by simp)) rfl (fun w hw => ⟨hw.seeOut_ hs_pa (fun _ _ => List.not_mem_nil), hw.apart hs_pa (fun _ _ => List.not_mem_nil) (by simp)⟩)) ?_
  rintro _ _ ⟨_, ⟨qp_19, qs_20, n_22, fq_21, f_23, rfl, rfl⟩, rfl⟩
  have hbn_22 : -9223372036854775808 ≤ n_22 ∧ n_22 ≤ 9223372036854775807 := (by decide : ∀ x ∈ ([0, 1, 7, 999, 1000, -1, 9223372036854775807] : List Int), -9223372036854775808 ≤ x ∧ x ≤ (9223372036854775807 : Int)) _ f_23
  refine JL.op rfl (JO.store 4 (vs := [.slice x_8.a0 m_9.s.length x_8.c0, .slice x_8.a1 m_9.r.length x_8.c1, .slice x_8.a2 m_9.w.length x_8.c2]) (cs' := [.slice x_8.a0 m_9.s.length x_8.c0, .slice x_8.a1 m_9.r.length x_8.c1, .slice x_8.a2 m_9.w.length x_8.c2]) rfl rfl rfl rfl Tryz.sizeOf29 rfl rfl (Nat.le_of_ble_eq_true rfl) rfl) ?_
  rintro _ _ rfl
  refine JL.pure rfl (PO.assign (v := str u_15) rfl) ?_
  refine JL.pure rfl (PO.assign (v := .int .i64 n_22) rfl) ?_
  refine JL.nil ?_
  refine JQ.seq ?_
  refine JC.ret ?_
  refine JQ.perm (pick_perm [1, 1, 1] (A := [rC x_8.a0 x_8.c0 m_9.s, rS x_8.a1 x_8.c1 m_9.r, rS x_8.a2 x_8.c2 m_9.w]) (F := [cb c_2 pa pc p qp_19 qs_20, mb b_1 x_8 m_9]) rfl).symm ?_
  refine Done.three (.inl rfl) rfl (RV.cell1 (LO.loadK 4 (vs := [.slice x_8.a0 m_9.s.length x_8.c0, .slice x_8.a1 m_9.r.length x_8.c1, .slice x_8.a2 m_9.w.length x_8.c2]) rfl rfl Tryz.isAgg29 Tryz.sizeOf29 rfl rfl) ⟨_, rfl⟩) (RV.tmp (v := str u_15) rfl) (RV.tmp (v := .int .i64 n_22) rfl) (List.sublist_append_left [rC x_8.a0 x_8.c0 m_9.s, rS x_8.a1 x_8.c1 m_9.r, rS x_8.a2 x_8.c2 m_9.w] [cb c_2 pa pc p qp_19 qs_20, mb b_1 x_8 m_9]) ?_
  exact ⟨x_8, m_9, u_15, n_22, (k_10.mono (by omega) (by omega)), (by first | omega | (simp only [List.length_append, List.length_cons, List.length_nil, List.length_take, List.length_drop]; omega)), (by first | omega | (simp only [List.length_append, List.length_cons, List.length_nil, List.length_take, List.length_drop]; omega)), rfl, rfl⟩

theorem D_drawNumOf (pa : Option Addr) (pc : Nat) (p : Str) (hp : p.length ≤ 1048576)  :
    Ct Tryz.prog 14 [.slice pa p.length pc] [] (fun w => Sees w (.slice pa p.length pc) 1 p.length (p.map encB)) (fun v A' => ∃ r0, (r0.length ≤ 64) ∧ v = str r0 ∧ A' = []) := by
  refine Ct.intro Tryz.func14 rfl Tryz.ntmps14 (Nat.le_of_ble_eq_true rfl) fun w0 hpre => ?_
  have hs_pa : Sees w0 _ _ _ _ := hpre
  refine JC.seq ?_
  refine JC.region ?_
  refine JL.pure rfl (PO.assign (v := str []) rfl) ?_
  refine JL.nil ?_
  refine JQ.seq ?_
  refine JC.seq ?_
  refine JC.region ?_
  refine JL.pure rfl (PO.move (v := .slice pa p.length pc) rfl) ?_
  refine JL.op rfl (JO.call [] Tryz.call34 rfl (D_new pa pc p (by omega)) rfl (fun w hw => hw.seeOut_ hs_pa (fun _ _ => List.not_mem_nil))) ?_
  rintro _ _ ⟨_, ⟨c_1, qs_2, -, rfl, rfl⟩, rfl⟩
  refine JL.op rfl (JO.buildSlice (ps := [(0, str []), (1, str [48]), (2, str [49]), (3, str [49, 50]), (4, str [48, 49, 50]), (5, str [57, 57, 57]), (6, str [49, 48, 48, 48]), (7, str [120]), (8, str [45, 49])]) (cur := #[str [], str [48], str [49], str [49, 50], str [48, 49, 50], str [57, 57, 57], str [49, 48, 48, 48], str [120], str [45, 49]]) Tryz.underlying25 Tryz.sizeOf9 Tryz.zeroValue9 rfl (by kernel_rfl) (by decide) (by decide)) ?_
  rintro _ _ ⟨a_4, rfl, rfl⟩
  refine JL.op rfl (JO.call [1, 0] Tryz.call36 rfl (D_pick c_1 pa pc p 0 qs_2 a_4 9 ([[], [48], [49], [49, 50], [48, 49, 50], [57, 57, 57], [49, 48, 48, 48], [120], [45, 49]] : List Str) (by omega) (by omega) (by simp) (by simp)) rfl (fun w hw => ⟨hw.seeOut_ hs_pa (fun _ _ => List.not_mem_nil), hw.apart hs_pa (fun _ _ => List.not_mem_nil) (by simp)⟩)) ?_
  rintro _ _ ⟨_, ⟨qp_5, qs_6, u_8, fq_7, f_9, rfl, rfl⟩, rfl⟩
  have hlu_8 : u_8.length ≤ 64 := by have hx_ := f_9; simp only [List.mem_cons, List.not_mem_nil, or_false] at hx_; rcases hx_ with hx_ | hx_ | hx_ | hx_ | hx_ | hx_ | hx_ | hx_ | hx_ <;> first | (rw [hx_]; decide) | (rw [hx_]; omega)
  refine JL.pure rfl (PO.assign (v := str u_8) rfl) ?_
  refine JL.nil ?_
  refine JQ.seq ?_
  refine JC.ret ?_
  refine Done.one (.inl rfl) rfl (RV.tmp (v := str u_8) rfl) (List.nil_sublist _) ?_
  exact ⟨u_8, (by first | omega | (simp only [List.length_append, List.length_cons, List.length_nil, List.length_take, List.length_drop]; omega)), rfl, rfl⟩

theorem D_drawKeyNum (pa : Option Addr) (pc : Nat) (p : Str) (hp : p.length ≤ 1048576)  :
    Ct Tryz.prog 15 [.slice pa p.length pc] [] (fun w => Sees w (.slice pa p.length pc) 1 p.length (p.map encB)) (fun v A' => ∃ r0 r1 r2, (r0.length ≤ 64) ∧ (-9223372036854775808 ≤ r1 ∧ r1 ≤ 9223372036854775807) ∧ (r2.length ≤ 64) ∧ v = .tuple #[str r0, .int .i64 r1, str r2] ∧ A' = []) := by
  refine Ct.intro Tryz.func15 rfl Tryz.ntmps15 (Nat.le_of_ble_eq_true rfl) fun w0 hpre => ?_
  have hs_pa : Sees w0 _ _ _ _ := hpre
  refine JC.seq ?_
  refine JC.region ?_
  refine JL.pure rfl (PO.assign (v := str []) rfl) ?_
  refine JL.pure rfl (PO.assign (v := .int .i64 0) rfl) ?_
  refine JL.pure rfl (PO.assign (v := str []) rfl) ?_
  refine JL.nil ?_
  refine JQ.seq ?_
  refine JC.seq ?_
  refine JC.region ?_
  refine JL.pure rfl (PO.move (v := .slice pa p.length pc) rfl) ?_
  refine JL.op rfl (JO.call [] Tryz.call34 rfl (D_new pa pc p (by omega)) rfl (fun w hw => hw.seeOut_ hs_pa (fun _ _ => List.not_mem_nil))) ?_
  rintro _ _ ⟨_, ⟨c_1, qs_2, -, rfl, rfl⟩, rfl⟩
  refine JL.pure rfl (PO.assign (v := .pointer (some ⟨c_1, 0, none⟩)) rfl) ?_
  refine JL.nil ?_
  refine JQ.seq ?_
  refine JC.seq ?_
  refine JC.region ?_
  refine JL.pure rfl (PO.move (v := .pointer (some ⟨c_1, 0, none⟩)) rfl) ?_
  refine JL.op rfl (JO.buildSlice (ps := [(0, str [105, 47]), (1, str [112, 47]), (2, str [])]) (cur := #[str [105, 47], str [112, 47], str []]) Tryz.underlying25 Tryz.sizeOf9 Tryz.zeroValue9 rfl (by kernel_rfl) (by decide) (by decide)) ?_
  rintro _ _ ⟨a_4, rfl, rfl⟩
  refine JL.op rfl (JO.call [1, 0] Tryz.call36 rfl (D_pick c_1 pa pc p 0 qs_2 a_4 3 ([[105, 47], [112, 47], []] : List Str) (by omega) (by omega) (by simp) (by simp)) rfl (fun w hw => ⟨hw.seeOut_ hs_pa (fun _ _ => List.not_mem_nil), hw.apart hs_pa (fun _ _ => List.not_mem_nil) (by simp)⟩)) ?_
  rintro _ _ ⟨_, ⟨qp_5, qs_6, u_8, fq_7, f_9, rfl, rfl⟩, rfl⟩
  have hlu_8 : u_8.length ≤ 64 := by have hx_ := f_9; simp only [List.mem_cons, List.not_mem_nil, or_false] at hx_; rcases hx_ with hx_ | hx_ | hx_ <;> first | (rw [hx_]; decide) | (rw [hx_]; omega)
  refine JL.pure rfl (PO.move (v := .pointer (some ⟨c_1, 0, none⟩)) rfl) ?_
  refine JL.op rfl (JO.buildSlice (ps := [(0, .int .i64 0), (1, .int .i64 5), (2, .int .i64 (-3)), (3, .int .i64 9223372036854775807), (4, .int .i64 (-9223372036854775808))]) (cur := #[.int .i64 0, .int .i64 5, .int .i64 (-3), .int .i64 9223372036854775807, .int .i64 (-9223372036854775808)]) Tryz.underlying53 Tryz.sizeOf3 Tryz.zeroValue3 rfl (by kernel_rfl) (by decide) (by decide)) ?_
  rintro _ _ ⟨a_11, rfl, rfl⟩
  refine JL.op rfl (JO.call [1, 0] Tryz.call44 rfl (D_pickInt c_1 pa pc p qp_5 qs_6 a_11 5 ([0, 5, -3, 9223372036854775807, -9223372036854775808] : List Int) (by omega) (by omega) (by simp) (by simp)) rfl (fun w hw => ⟨hw.seeOut_ hs_pa (fun _ _ => List.not_mem_nil), hw.apart hs_pa (fun _ _ => List.not_mem_nil) (by simp)⟩)) ?_
  rintro _ _ ⟨_, ⟨qp_12, qs_13, n_15, fq_14, f_16, rfl, rfl⟩, rfl⟩
  have hbn_15 : -9223372036854775808 ≤ n_15 ∧ n_15 ≤ 9223372036854775807 := (by decide : ∀ x ∈ ([0, 5, -3, 9223372036854775807, -9223372036854775808] : List Int), -9223372036854775808 ≤ x ∧ x ≤ (9223372036854775807 : Int)) _ f_16
  refine JL.pure rfl (PO.move (v := .pointer (some ⟨c_1, 0, none⟩)) rfl) ?_
  refine JL.op rfl (JO.buildSlice (ps := [(0, str []), (1, str [47, 115])]) (cur := #[str [], str [47, 115]]) Tryz.underlying25 Tryz.sizeOf9 Tryz.zeroValue9 rfl (by kernel_rfl) (by decide) (by decide)) ?_
  rintro _ _ ⟨a_18, rfl, rfl⟩
  refine JL.op rfl (JO.call [1, 0] Tryz.call36 rfl (D_pick c_1 pa pc p qp_12 qs_13 a_18 2 ([[], [47, 115]] : List Str) (by omega) (by omega) (by simp) (by simp)) rfl (fun w hw => ⟨hw.seeOut_ hs_pa (fun _ _ => List.not_mem_nil), hw.apart hs_pa (fun _ _ => List.not_mem_nil) (by simp)⟩)) ?_
  rintro _ _ ⟨_, ⟨qp_19, qs_20, u_22, fq_21, f_23, rfl, rfl⟩, rfl⟩
  have hlu_22 : u_22.length ≤ 64 := by have hx_ := f_23; simp only [List.mem_cons, List.not_mem_nil, or_false] at hx_; rcases hx_ with hx_ | hx_ <;> first | (rw [hx_]; decide) | (rw [hx_]; omega)
  refine JL.pure rfl (PO.assign (v := str u_8) rfl) ?_
  refine JL.pure rfl (PO.assign (v := .int .i64 n_15) rfl) ?_
  refine JL.pure rfl (PO.assign (v := str u_22) rfl) ?_
  refine JL.nil ?_
  refine JQ.seq ?_
  refine JC.ret ?_
  refine Done.three (.inl rfl) rfl (RV.tmp (v := str u_8) rfl) (RV.tmp (v := .int .i64 n_15) rfl) (RV.tmp (v := str u_22) rfl) (List.nil_sublist _) ?_
  exact ⟨u_8, n_15, u_22, (by first | omega | (simp only [List.length_append, List.length_cons, List.length_nil, List.length_take, List.length_drop]; omega)), (by first | omega | (simp only [List.length_append, List.length_cons, List.length_nil, List.length_take, List.length_drop]; omega)), (by first | omega | (simp only [List.length_append, List.length_cons, List.length_nil, List.length_take, List.length_drop]; omega)), rfl, rfl⟩

end Go.Proofs.YtndahpodgmecnaaGreatDoor
