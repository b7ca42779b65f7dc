/-
  Drawing a machine (part 22).
-/
import Derived.Test.YtenfajgpdhgknaaGreatDoorS13KEYS
import Derived.Test.YtenfajgpdhgknaaGreatDoorDatD
import Derived.Test.YtenfajgpdhgknaaGreatDoorS21DRAW
import Derived.Test.YtenfajgpdhgknaaGreatDoorDatG
set_option linter.unusedSimpArgs false
set_option linter.unusedVariables false
set_option linter.unnecessarySimpa false
namespace Go.Proofs.YtenfajgpdhgknaaGreatDoor
open Go Go.RowKit
theorem Ct.toMach {P : Program} {f : FuncId} {args : List Value} {A : List Res} {Pre : World → Prop} {s : List Cell} {n : Nat} (h : Ct P f args A Pre (fun v A' => ∃ a c, v = .agg #[.slice a s.length c, .slice none 0 0, .slice none 0 0] ∧ A' = [rC a c s])) (hO : okC' n 64 s) :
    Ct P f args A Pre (fun v A' => ∃ r0x r0, (fun s => (⟨s, [], []⟩ : MS)) s = r0 ∧ r0.ok n 0 ∧ v = mv r0x r0 ∧ A' = mr r0x r0) := fun w hA hp => by
  refine (h w hA hp).mono fun e w' h => ?_
  obtain ⟨v, A', rfl, ⟨a, c, rfl, rfl⟩, hst⟩ := h
  refine ⟨_, mr ⟨a, c, none, 0, none, 0⟩ ⟨s, [], []⟩, rfl, ⟨⟨a, c, none, 0, none, 0⟩, _, rfl, ⟨hO.1, Nat.le_refl _, Nat.le_refl _, fun c hc => ⟨Nat.le_trans (hO.2 c hc).1 (by decide), Nat.le_trans (hO.2 c hc).2 (by decide)⟩⟩, rfl, rfl⟩, ?_⟩
  exact ((hst.nilRow 9 1).nilRow 9 1).perm (List.perm_append_comm (l₁ := [rS none 0 [], rS none 0 []]) (l₂ := [rC a c s])).symm
attribute [local irreducible] JL JC JQ JO LO PO JA JX Ct

theorem D_machOf0 (sa : Option Addr) (sc : Nat) (s : List Cell) (hs : s.length ≤ 1000000000) :
    Ct Tryz.prog 147 [.slice sa s.length sc] [] (fun w => Sees w (.slice sa s.length sc) 2 s.length (s.flatMap encC)) (fun v A' => ∃ a c, v = .agg #[.slice a s.length c, .slice none 0 0, .slice none 0 0] ∧ A' = [rC a c s]) := by
  refine Ct.intro Tryz.func147 rfl Tryz.ntmps147 (Nat.le_of_ble_eq_true rfl) fun w0 hpre => ?_
  have hs_sa : Sees w0 _ _ _ _ := hpre
  refine JC.seq ?_
  refine JC.region ?_
  refine JL.op rfl (JO.alloc (z := .agg #[.slice none 0 0, .slice none 0 0, .slice none 0 0]) (cs := [.slice none 0 0, .slice none 0 0, .slice none 0 0]) Tryz.zeroValue32 rfl) ?_
  rintro _ _ ⟨b_1, rfl, rfl⟩
  refine JL.nil ?_
  refine JQ.seq ?_
  refine JC.seq ?_
  refine JC.region ?_
  refine JL.op rfl (JO.buildSlice (ps := []) (cur := #[]) Tryz.underlying29 Tryz.sizeOf113 Tryz.zeroValue113 rfl (by kernel_rfl) (by decide) (by decide)) ?_
  rintro _ _ ⟨a_2, rfl, rfl⟩
  refine JL.pure rfl (PO.move (v := .slice sa s.length sc) rfl) ?_
  refine JL.op rfl (JO.append' 0 (q := s.length) (news := s.flatMap encC) (n' := s.length) (cs' := s.flatMap encC) rfl Tryz.underlying29 Tryz.underlying29 Tryz.typeInfo113 rfl (by' := 32) rfl rfl rfl rfl rfl (fun w hw => Src.sees (hw.seeOut_ hs_sa (fun _ _ => List.not_mem_nil)) (oneC _)) (by (try simp only [List.length_append, List.length_cons, List.length_nil, List.length_take, List.length_drop]); omega) (by (try simp only [List.length_append, List.length_cons, List.length_nil, List.length_take, List.length_drop]); omega) (by (try simp only [List.length_take, List.length_drop]); first | rfl | omega) rfl) ?_
  rintro _ _ ⟨a_3, c_4, rfl, rfl⟩
  refine JL.pure rfl (PO.build (ps := [(0, .slice a_3 s.length c_4)]) (cs := [.slice a_3 s.length c_4, .slice none 0 0, .slice none 0 0]) rfl (by kernel_rfl)) ?_
  refine JL.op rfl (JO.store 1 (vs := [.slice a_3 s.length c_4, .slice none 0 0, .slice none 0 0]) (cs' := [.slice a_3 s.length c_4, .slice none 0 0, .slice none 0 0]) rfl rfl rfl rfl Tryz.sizeOf32 rfl rfl (Nat.le_of_ble_eq_true rfl) rfl) ?_
  rintro _ _ rfl
  refine JL.nil ?_
  refine JQ.seq ?_
  refine JC.ret ?_
  refine Done.one (.inl rfl) rfl (RV.cell1 (LO.loadK 1 (vs := [.slice a_3 s.length c_4, .slice none 0 0, .slice none 0 0]) rfl rfl Tryz.isAgg32 Tryz.sizeOf32 rfl rfl) ⟨_, rfl⟩) (List.sublist_append_left [rC a_3 c_4 s] [bk b_1 32 [.slice a_3 s.length c_4, .slice none 0 0, .slice none 0 0]]) ?_
  exact ⟨a_3, c_4, rfl, rfl⟩

theorem D_machOf (sa : Option Addr) (sc : Nat) (s : List Cell) (hs : s.length ≤ 1000000000) (n : Nat) (hO : okC' n 64 s) :
    Ct Tryz.prog 147 [.slice sa s.length sc] [] (fun w => Sees w (.slice sa s.length sc) 2 s.length (s.flatMap encC)) (fun v A' => ∃ r0x r0, (fun s => (⟨s, [], []⟩ : MS)) s = r0 ∧ r0.ok n 0 ∧ v = mv r0x r0 ∧ A' = mr r0x r0) := (D_machOf0 sa sc s hs).toMach hO

theorem D_base  :
    Ct Tryz.prog 36 [] [] (fun _ => True) (fun v A' => ∃ r0x r0, MS.empty = r0 ∧ r0.ok (0) (0) ∧ v = mv r0x r0 ∧ A' = mr r0x r0) := by
  refine Ct.intro Tryz.func36 rfl Tryz.ntmps36 (Nat.le_of_ble_eq_true rfl) fun w0 hpre => ?_
  refine JC.seq ?_
  refine JC.region ?_
  refine JL.op rfl (JO.alloc (z := .agg #[.slice none 0 0, .slice none 0 0, .slice none 0 0]) (cs := [.slice none 0 0, .slice none 0 0, .slice none 0 0]) Tryz.zeroValue32 rfl) ?_
  rintro _ _ ⟨b_1, rfl, rfl⟩
  refine JL.nil ?_
  refine JQ.seq ?_
  refine JC.seq ?_
  refine JC.region ?_
  refine JL.op rfl (JO.buildSlice (ps := []) (cur := #[]) Tryz.underlying29 Tryz.sizeOf113 Tryz.zeroValue113 rfl (by kernel_rfl) (by decide) (by decide)) ?_
  rintro _ _ ⟨a_2, rfl, rfl⟩
  refine JL.op rfl (JO.call [] Tryz.call147 rfl (D_machOf a_2 0 ([] : List Cell) (by first | omega | simp) 0 ⟨by simp, fun c hc => by cases hc⟩) rfl (fun w hw => hw.see (i := 0) rfl)) ?_
  rintro _ _ ⟨_, ⟨x_3, m_4, e_6, k_5, rfl, rfl⟩, rfl⟩
  refine JL.op rfl (JO.store 4 (vs := [.slice x_3.a0 m_4.s.length x_3.c0, .slice x_3.a1 m_4.r.length x_3.c1, .slice x_3.a2 m_4.w.length x_3.c2]) (cs' := [.slice x_3.a0 m_4.s.length x_3.c0, .slice x_3.a1 m_4.r.length x_3.c1, .slice x_3.a2 m_4.w.length x_3.c2]) rfl rfl rfl rfl Tryz.sizeOf32 rfl rfl (Nat.le_of_ble_eq_true rfl) rfl) ?_
  rintro _ _ rfl
  refine JL.nil ?_
  refine JQ.seq ?_
  refine JC.ret ?_
  refine Done.one (.inl rfl) rfl (RV.cell1 (LO.loadK 4 (vs := [.slice x_3.a0 m_4.s.length x_3.c0, .slice x_3.a1 m_4.r.length x_3.c1, .slice x_3.a2 m_4.w.length x_3.c2]) rfl rfl Tryz.isAgg32 Tryz.sizeOf32 rfl rfl) ⟨_, rfl⟩) (List.sublist_append_left [rC x_3.a0 x_3.c0 m_4.s, rS x_3.a1 x_3.c1 m_4.r, rS x_3.a2 x_3.c2 m_4.w] [Res.row (.slice a_2 0 0) 113 2 0 (([] : List Cell).flatMap encC), mb b_1 x_3 m_4]) ?_
  exact ⟨x_3, m_4, (by simp only [MS.empty, e_6, if_true, if_false, Bool.false_eq_true, Bool.not_true, Bool.not_false]; (repeat (first | rw [if_pos (by omega)] | rw [if_neg (by omega)])); all_goals (first | rfl | simp only [if_true, if_false, Bool.false_eq_true, Bool.not_true, Bool.not_false, e_6])), (k_5.mono (by omega) (by omega)), rfl, rfl⟩

end Go.Proofs.YtenfajgpdhgknaaGreatDoor
