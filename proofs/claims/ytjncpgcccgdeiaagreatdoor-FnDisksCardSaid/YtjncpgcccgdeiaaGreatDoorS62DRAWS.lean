/-
  Texts of the walk, joined: what each one proves stands at its theorems.
-/
import Derived.Test.YtjncpgcccgdeiaaGreatDoorS22MACH
import Derived.Test.YtjncpgcccgdeiaaGreatDoorS46OK
import Derived.Lib.Strings
import Derived.Laws.Small
import Derived.Test.YtjncpgcccgdeiaaGreatDoorSlStr
set_option linter.unusedSimpArgs false
set_option linter.unusedVariables false
set_option linter.unnecessarySimpa false
namespace Go.Proofs.YtjncpgcccgdeiaaGreatDoor
open Go Go.RowKit
theorem okC'.snoc {n k : Nat} {s : List Cell} {a b : Str} (h : okC' n k s) (h1 : a.length ≤ k) (h2 : b.length ≤ k) : okC' (n + 1) k (s ++ [(a, b)]) := by
  refine ⟨by have := h.1; simp only [List.length_append, List.length_cons, List.length_nil]; omega, fun c hc => ?_⟩
  rcases List.mem_append.1 hc with hc | hc
  · exact h.2 c hc
  · rw [List.mem_singleton] at hc
    subst hc
    exact ⟨h1, h2⟩
theorem okC'.okC {n k : Nat} {s : List Cell} (h : okC' n k s) (hn : n ≤ 1000000000) (hk : k ≤ 1000000000) : okC s := short_okC (fun c hc => ⟨by have := (h.2 c hc).1; omega, by have := (h.2 c hc).2; omega⟩) (by have := h.1; omega)
theorem recGo_len : ∀ (l : List Cell) (b : Str), (recGo b l).length ≤ 4000
  | [], b => by
    unfold recGo recEnd
    split
    · exact Nat.zero_le _
    · omega
  | c :: l, b => by
    unfold recGo
    split
    · exact Nat.zero_le _
    · exact recGo_len l _
theorem recText_len (seq : Int) (l : List Cell) : (recText seq l).length ≤ 4000 := by
  unfold recText
  split
  · exact recGo_len _ _
  · exact Nat.zero_le _
theorem new_okz {s : List Cell} (h : okC s) : (DD.new s).okz := by
  refine ⟨by show 2 ≤ _; decide, fun x hx => ?_, Nat.zero_le _⟩
  simp only [DD.new, List.mem_cons, List.not_mem_nil, or_false] at hx
  rcases hx with rfl | rfl
  · exact ⟨h⟩
  · exact ⟨⟨Nat.zero_le _, fun j hj => absurd hj (Nat.not_lt_zero j)⟩⟩
theorem new_lim {s : List Cell} {n : Nat} (h : s.length ≤ n) (hn : 2 ≤ n) : (DD.new s).lim n := by
  refine ⟨hn, fun x hx => ?_⟩
  simp only [DD.new, List.mem_cons, List.not_mem_nil, or_false] at hx
  rcases hx with rfl | rfl
  · exact ⟨h⟩
  · exact ⟨Nat.zero_le _⟩
theorem foldB_len (d : DD) : d.foldB.1.slots.length = d.slots.length := by
  unfold DD.foldB
  split
  · exact List.length_set
  · rfl
theorem foldE_len (d : DD) : d.foldE.1.slots.length = d.slots.length := by
  unfold DD.foldE
  split
  · exact List.length_set
  · rfl
theorem foldB_jlen {d : DD} {n : Nat} (h : d.jt.length ≤ n) : d.foldB.1.jt.length ≤ n := by
  unfold DD.foldB
  split
  · simp only [List.length_take]; omega
  · exact h
theorem foldE_jlen {d : DD} {n : Nat} (h : d.jt.length ≤ n) : d.foldE.1.jt.length ≤ n := by
  unfold DD.foldE
  split <;> exact h
/-- What is told of a drawn disk. -/
structure Drawn (d : DX) : Prop where
  z : d.dat.okz
  l : d.dat.lim 1000000000
  j : d.jt.length ≤ 100000
structure Drawn2 (d : DX) : Prop extends Drawn d where
  n : d.l.length = 2
theorem Drawn.of {d y : DX} (h : Drawn d) (h1 : y.l.map OX.t = d.l.map OX.t) (h2 : y.jt.length ≤ 100000) : Drawn y := by
  refine ⟨⟨?_, ?_, ?_⟩, ⟨?_, ?_⟩, h2⟩
  · show (y.l.map OX.t).length ≤ _; rw [h1]; exact h.z.k0
  · show ∀ s ∈ y.l.map OX.t, _; rw [h1]; exact h.z.k1
  · show y.jt.length ≤ _; omega
  · show (y.l.map OX.t).length ≤ _; rw [h1]; exact h.l.l0
  · show ∀ s ∈ y.l.map OX.t, _; rw [h1]; exact h.l.l1
theorem len_map {d e : DX} (h : d.dat.slots.length = e.dat.slots.length) : d.l.length = e.l.length := by simpa only [DX.dat, List.length_map] using h
theorem drawn_new {y : DX} {s : List Cell} (h : y.dat = DD.new s) (hs : okC' 9 64 s) : Drawn2 y := by
  have hj : y.jt = [] := congrArg DD.jt h
  refine ⟨⟨by rw [h]; exact new_okz (hs.okC (by decide) (by decide)), by rw [h]; exact new_lim (by have := hs.1; omega) (by decide), by rw [hj]; exact Nat.zero_le _⟩, ?_⟩
  have := congrArg (fun q : DD => q.slots.length) h
  simpa only [DX.dat, List.length_map, DD.new, List.length_cons, List.length_nil] using this
theorem Drawn2.of {d y : DX} (h : Drawn2 d) (h1 : y.l = d.l) (h2 : y.jt.length ≤ 100000) : Drawn2 y := ⟨h.toDrawn.of (by rw [h1]) h2, by rw [h1]; exact h.n⟩
theorem Drawn2.foldB {d y : DX} (h : Drawn2 d) (hy : y.dat = d.dat.foldB.1) : Drawn2 y := by
  have hj : y.jt = d.dat.foldB.1.jt := congrArg DD.jt hy
  refine ⟨⟨by rw [hy]; exact foldB_okz h.z, by rw [hy]; exact foldB_lim h.z h.l (by decide), by rw [hj]; exact foldB_jlen h.j⟩, ?_⟩
  rw [len_map (d := y) (e := d) (by rw [hy, foldB_len])]
  exact h.n
theorem Drawn2.foldE {d y : DX} (h : Drawn2 d) (hy : y.dat = d.dat.foldE.1) : Drawn2 y := by
  have hj : y.jt = d.dat.foldE.1.jt := congrArg DD.jt hy
  refine ⟨⟨by rw [hy]; exact foldE_okz h.z, by rw [hy]; exact foldE_lim h.l, by rw [hj]; exact foldE_jlen h.j⟩, ?_⟩
  rw [len_map (d := y) (e := d) (by rw [hy, foldE_len])]
  exact h.n
theorem Drawn.set {d : DX} {a : Option Addr} {c i : Nat} {x : OX} (h : Drawn d) (hz : x.t.okz) (hl : x.t.lim 1000000000) : Drawn (⟨a, c, d.l.set i x, d.jt, d.js⟩ : DX) := by
  refine ⟨⟨?_, fun s hs => ?_, h.z.k2⟩, ⟨?_, fun s hs => ?_⟩, h.j⟩
  · show ((d.l.set i x).map OX.t).length ≤ _; rw [List.length_map, List.length_set]; have := h.z.k0; simpa only [DX.dat, List.length_map] using this
  · have hs : s ∈ (d.l.set i x).map OX.t := hs
    rw [set_dat] at hs
    rcases mem_set hs with hs | rfl
    · exact h.z.k1 s hs
    · exact hz
  · show ((d.l.set i x).map OX.t).length ≤ _; rw [List.length_map, List.length_set]; have := h.l.l0; simpa only [DX.dat, List.length_map] using this
  · have hs : s ∈ (d.l.set i x).map OX.t := hs
    rw [set_dat] at hs
    rcases mem_set hs with hs | rfl
    · exact h.l.l1 s hs
    · exact hl
theorem Drawn.take {d : DX} {a : Option Addr} {c i : Nat} (h : Drawn d) : Drawn (⟨a, c, d.l.take i, d.jt, d.js⟩ : DX) := by
  have hm : ∀ s ∈ (d.l.take i).map OX.t, s ∈ d.dat.slots := fun s hs => by
    obtain ⟨x, hx, rfl⟩ := List.mem_map.1 hs
    exact List.mem_map_of_mem (List.mem_of_mem_take hx)
  have hn : ((d.l.take i).map OX.t).length ≤ d.dat.slots.length := by simp only [DX.dat, List.length_map, List.length_take]; omega
  exact ⟨⟨Nat.le_trans hn h.z.k0, fun s hs => h.z.k1 s (hm s hs), h.z.k2⟩, ⟨Nat.le_trans hn h.l.l0, fun s hs => h.l.l1 s (hm s hs)⟩, h.j⟩
theorem flat_front {α : Type} {f : α → List Value} {k : Nat} (hf : ∀ x, (f x).length = k) : ∀ (l : List α) (q : Nat), (l.flatMap f).take (q * k) = (l.take q).flatMap f
  | [], q => by simp
  | x :: l, 0 => by simp
  | x :: l, q + 1 => by
    rw [List.flatMap_cons, List.take_succ_cons, List.flatMap_cons, show (q + 1) * k = (f x).length + q * k by rw [hf x, Nat.succ_mul, Nat.add_comm], List.take_length_add_append, flat_front hf l q]
attribute [local irreducible] JL JC JQ JO LO PO JA JX Ct

theorem D_any02 (qb : Nat) (qa : Option Addr) (qc : Nat) (ql : Str) (qp : Nat) (qs : Int) (hql : ql.length ≤ 1048576) (hqp : qp ≤ ql.length)  :
    Ct Tryz.prog 100 [.pointer (some ⟨qb, 0, none⟩)] [cb qb qa qc ql qp qs] (fun w => seesC w qa qc ql [cb qb qa qc ql qp qs]) (fun v A' => ∃ qp' qs' r0a r0c r0, qp' ≤ ql.length ∧ (okC' 9 64 r0) ∧ v = .slice r0a r0.length r0c ∧ A' = cb qb qa qc ql qp' qs' :: [rC r0a r0c r0]) := by
  refine Ct.intro Tryz.func100 rfl Tryz.ntmps100 (lb rfl) fun w0 hpre => ?_
  have hs_qa : Sees w0 _ _ _ _ := hpre.1
  refine jC <| jF <| jA (jG (v := .slice none 0 0) rfl) <| jE <| jB <| jC <| jF <| jA (jD (v := .pointer (some ⟨qb, 0, none⟩)) rfl) ?_
  refine jH rfl (jI [0] Tryz.call135 rfl (D_store qb qa qc ql qp qs (by omega) (by omega)) rfl (fun w hw => ⟨hw.seeOut_ hs_qa (hpre.2), hw.apart hs_qa (hpre.2) (by simp)⟩)) ?_
  rintro _ _ ⟨_, ⟨qp_1, qs_2, l_4a, l_4c, l_4, fq_3, f_5, rfl, rfl⟩, rfl⟩
  have hO1_ := f_5.1
  refine jA (jG (v := .slice l_4a l_4.length l_4c) rfl) <| jE <| jB <| jC <| jC <| jF <| jA (jD (v := .pointer (some ⟨qb, 0, none⟩)) rfl) ?_
  refine jH rfl (jI [0] Tryz.call99 rfl (D_once qb qa qc ql qp_1 qs_2 (by omega) (by omega) 8 (by omega)) rfl (fun w hw => ⟨hw.seeOut_ hs_qa (hpre.2), hw.apart hs_qa (hpre.2) (by simp)⟩)) ?_
  rintro _ _ ⟨_, ⟨qp_7, qs_8, b_10, fq_9, rfl, rfl⟩, rfl⟩
  refine jE <| jB ?_
  rcases Bool.eq_false_or_eq_true (b_10) with h_12 | h_12
  · refine jW (cB h_12) <| jF <| jA (jD (v := .slice l_4a l_4.length l_4c) rfl) <| jA (jD (v := .pointer (some ⟨qb, 0, none⟩)) rfl) ?_
    refine jH rfl (jI [0] Tryz.call136 rfl (D_anyKey qb qa qc ql qp_7 qs_8 (by omega) (by omega)) rfl (fun w hw => ⟨hw.seeOut_ hs_qa (hpre.2), hw.apart hs_qa (hpre.2) (by simp)⟩)) ?_
    rintro _ _ ⟨_, ⟨qp_13, qs_14, u_16, fq_15, f_17, rfl, rfl⟩, rfl⟩
    refine jA (jD (v := .pointer (some ⟨qb, 0, none⟩)) rfl) ?_
    refine jH rfl (jI [0] Tryz.call137 rfl (D_val qb qa qc ql qp_13 qs_14 (by omega) (by omega)) rfl (fun w hw => ⟨hw.seeOut_ hs_qa (hpre.2), hw.apart hs_qa (hpre.2) (by simp)⟩)) ?_
    rintro _ _ ⟨_, ⟨qp_19, qs_20, u_22, fq_21, f_23, rfl, rfl⟩, rfl⟩
    refine jA (kW (ps := [(0, str u_16), (1, str u_22)]) (cs := [str u_16, str u_22]) rfl (by kernel_rfl)) ?_
    refine jH rfl (kH (ps := [(0, .agg #[str u_16, str u_22])]) (cur := #[str u_16, str u_22]) kf kh kw rfl (by kernel_rfl) (by decide) (by decide)) ?_
    rintro _ _ ⟨a_25, rfl, rfl⟩
    refine jH rfl (kU 2 (q := 1) (news := ([(u_16, u_22)] : List Cell).flatMap encC) (n' := (l_4 ++ ([(u_16, u_22)] : List Cell)).length) (cs' := (l_4 ++ ([(u_16, u_22)] : List Cell)).flatMap encC) rfl kf kf ky rfl (by' := 32) rfl rfl rfl rfl rfl (fun w hw => Src.sees (hw.see (i := 0) rfl) (oneC _)) (by (try simp only [LE]); omega) (by (try simp only [LE]); omega) (by simp only [List.length_append, List.length_take, List.length_drop, List.length_cons, List.length_nil] <;> first | rfl | omega) (by simp only [List.flatMap_append])) ?_
    rintro _ _ ⟨a_26, c_27, rfl, rfl⟩
    refine jA (jG (v := .slice a_26 ((l_4 ++ ([(u_16, u_22)] : List Cell)).length) c_27) rfl) <| jE <| jB <| jC <| jF <| jA (jD (v := .slice a_26 ((l_4 ++ ([(u_16, u_22)] : List Cell)).length) c_27) rfl) <| jA (jG (v := .slice a_26 ((l_4 ++ ([(u_16, u_22)] : List Cell)).length) c_27) rfl) <| jE <| jB <| jN ?_
    refine kM (pick_perm [1, 1] (A := [cb qb qa qc ql qp_19 qs_20, rC a_26 c_27 (l_4 ++ ([(u_16, u_22)] : List Cell))]) (F := [Res.row (.slice a_25 1 1) 48 2 1 (([(u_16, u_22)] : List Cell).flatMap encC)]) rfl).symm <| jV (.inl rfl) rfl (jJ (v := .slice a_26 ((l_4 ++ ([(u_16, u_22)] : List Cell)).length) c_27) rfl) (tS 2 _) ?_
    exact ⟨qp_19, qs_20, a_26, c_27, (l_4 ++ ([(u_16, u_22)] : List Cell)), (by omega), (by first | exact okC'.snoc (by assumption) (by omega) (by omega) | exact okC'.mono (by assumption) (by omega)), rfl, rfl⟩
  refine jR (cB h_12) <| jT <| jB <| jC <| jF <| jA (jD (v := .slice l_4a l_4.length l_4c) rfl) <| jA (jG (v := .slice l_4a l_4.length l_4c) rfl) <| jE <| jB <| jN ?_
  refine jV (.inl rfl) rfl (jJ (v := .slice l_4a l_4.length l_4c) rfl) (List.Sublist.refl _) ?_
  exact ⟨qp_7, qs_8, l_4a, l_4c, l_4, (by omega), (by first | exact okC'.snoc (by assumption) (by omega) (by omega) | exact okC'.mono (by assumption) (by omega)), rfl, rfl⟩

theorem D_list21 (qb : Nat) (qa : Option Addr) (qc : Nat) (ql : Str) (qp : Nat) (qs : Int) (hql : ql.length ≤ 1048576) (hqp : qp ≤ ql.length)  :
    Ct Tryz.prog 181 [.pointer (some ⟨qb, 0, none⟩)] [cb qb qa qc ql qp qs] (fun w => seesC w qa qc ql [cb qb qa qc ql qp qs]) (fun v A' => ∃ qp' qs' r0a r0c r0, qp' ≤ ql.length ∧ (okC' 40 5000 r0) ∧ v = .slice r0a r0.length r0c ∧ A' = cb qb qa qc ql qp' qs' :: [rC r0a r0c r0]) := by
  refine Ct.intro Tryz.func181 rfl Tryz.ntmps181 (lb rfl) fun w0 hpre => ?_
  have hs_qa : Sees w0 _ _ _ _ := hpre.1
  refine jC <| jF <| jA (jG (v := .slice none 0 0) rfl) <| jE <| jB <| jC <| jF ?_
  refine jH rfl (kH (ps := []) (cur := #[]) kf kh kw rfl (by kernel_rfl) (by decide) (by decide)) ?_
  rintro _ _ ⟨a_1, rfl, rfl⟩
  refine jA (jG (v := .slice a_1 0 0) rfl) <| jE <| jB <| jC <| jC <| jF <| jA (jG (v := iv 0) rfl) <| jE <| jB <| jf ?_
  refine kD (fun k_ e_ L_ => ∃ i_ : Nat, ∃ p_q : Nat, ∃ s_q : Int, ∃ o_a : Option Addr, ∃ o_c : Nat, ∃ o_ : List Cell, (p_q ≤ ql.length) ∧ (i_ ≤ 4) ∧ (okC' i_ 5000 o_) ∧ e_ 0 = .pointer (some ⟨qb, 0, none⟩) ∧ e_ 2 = .slice none 0 0 ∧ e_ 3 = .slice o_a o_.length o_c ∧ e_ 4 = nv i_ ∧ L_ = [rC o_a o_c o_, cb qb qa qc ql p_q s_q] ∧ k_ = 5 - i_) _ ⟨0, qp, qs, a_1, 0, ([] : List Cell), (by omega), (by omega), (⟨by simp, fun c hc => by cases hc⟩), rfl, rfl, rfl, rfl, rfl, rfl⟩ ?_
  rintro _ e_2 _ ⟨i_, p_q, s_q, o_a, o_c, o_, hpq_, hi, hO, he_3, he_4, he_5, he_6, rfl, rfl⟩
  have hO1 := hO.1
  refine jC <| jC <| jF <| jA (jD (v := nv i_) he_6) <| jA (jD (v := .pointer (some ⟨qb, 0, none⟩)) he_3) ?_
  refine jH rfl (jI [1] Tryz.call73 rfl (D_below qb qa qc ql p_q s_q (by omega) (by omega) 4 (by omega)) rfl (fun w hw => ⟨hw.seeOut_ hs_qa (hpre.2), hw.apart hs_qa (hpre.2) (by simp)⟩)) ?_
  rintro _ _ ⟨_, ⟨qp_7, qs_8, n_10, fq_9, f_11, rfl, rfl⟩, rfl⟩
  refine jA (jl rfl rfl) <| jE <| jB ?_
  by_cases h_13 : ((i_ : Nat) : Int) < ((n_10 : Nat) : Int)
  · refine jW (cB (dT h_13)) <| jT <| jB <| jC <| jf <| jF <| jA (jD (v := .slice o_a o_.length o_c) he_5) <| jA (jD (v := .pointer (some ⟨qb, 0, none⟩)) he_3) ?_
    refine jH rfl (jI [0] Tryz.call157 rfl (D_key qb qa qc ql qp_7 qs_8 (by omega) (by omega)) rfl (fun w hw => ⟨hw.seeOut_ hs_qa (hpre.2), hw.apart hs_qa (hpre.2) (by simp)⟩)) ?_
    rintro _ _ ⟨_, ⟨qp_14, qs_15, u_17, fq_16, f_18, rfl, rfl⟩, rfl⟩
    refine jA (jD (v := .pointer (some ⟨qb, 0, none⟩)) he_3) <| jA (jD (v := .pointer (some ⟨qb, 0, none⟩)) he_3) ?_
    refine jH rfl (jI [0] Tryz.call73 rfl (D_below qb qa qc ql qp_14 qs_15 (by omega) (by omega) 4 (by omega)) rfl (fun w hw => ⟨hw.seeOut_ hs_qa (hpre.2), hw.apart hs_qa (hpre.2) (by simp)⟩)) ?_
    rintro _ _ ⟨_, ⟨qp_20, qs_21, n_23, fq_22, f_24, rfl, rfl⟩, rfl⟩
    refine jH rfl (jI [0] Tryz.call159 rfl (D_text qb qa qc ql qp_20 qs_21 (by omega) (by omega) ((n_23 : Nat) : Int) (by omega)) rfl (fun w hw => ⟨hw.seeOut_ hs_qa (hpre.2), hw.apart hs_qa (hpre.2) (by simp)⟩)) ?_
    rintro _ _ ⟨_, ⟨qp_26, qs_27, u_29, fq_28, f_30, rfl, rfl⟩, rfl⟩
    refine jA (kW (ps := [(0, str u_17), (1, str u_29)]) (cs := [str u_17, str u_29]) rfl (by kernel_rfl)) ?_
    refine jH rfl (kH (ps := [(0, .agg #[str u_17, str u_29])]) (cur := #[str u_17, str u_29]) kf kh kw rfl (by kernel_rfl) (by decide) (by decide)) ?_
    rintro _ _ ⟨a_32, rfl, rfl⟩
    refine jH rfl (kU 2 (q := 1) (news := ([(u_17, u_29)] : List Cell).flatMap encC) (n' := (o_ ++ ([(u_17, u_29)] : List Cell)).length) (cs' := (o_ ++ ([(u_17, u_29)] : List Cell)).flatMap encC) rfl kf kf ky rfl (by' := 32) rfl rfl rfl rfl rfl (fun w hw => Src.sees (hw.see (i := 0) rfl) (oneC _)) (by (try simp only [LE]); omega) (by (try simp only [LE]); omega) (by simp only [List.length_append, List.length_take, List.length_drop, List.length_cons, List.length_nil] <;> first | rfl | omega) (by simp only [List.flatMap_append])) ?_
    rintro _ _ ⟨a_33, c_34, rfl, rfl⟩
    refine jA (jG (v := .slice a_33 ((o_ ++ ([(u_17, u_29)] : List Cell)).length) c_34) rfl) <| jE <| jm <| jB <| jF <| jA (jD (v := nv i_) he_6) <| jA (jc (c := ((i_ + 1 : Nat) : Int)) rfl rfl (wr (by omega))) <| jA (jG (v := iv ((i_ + 1 : Nat) : Int)) rfl) <| jE <| kB [2, 1] (A := [rC a_33 c_34 (o_ ++ ([(u_17, u_29)] : List Cell)), cb qb qa qc ql qp_26 qs_27]) rfl ?_
    refine jq (5 - (i_ + 1)) (by omega) ⟨(i_ + 1), qp_26, qs_27, a_33, c_34, (o_ ++ ([(u_17, u_29)] : List Cell)), (by omega), (by omega), (okC'.snoc hO (by omega) (by omega)), he_3, he_4, rfl, rfl, rfl, rfl⟩
  refine jR (cB (dF h_13)) <| jx <| jb <| jb <| jy <| jB <| jC <| jC <| jF <| jA (jD (v := .pointer (some ⟨qb, 0, none⟩)) he_3) ?_
  refine jH rfl (jI [0] Tryz.call99 rfl (D_once qb qa qc ql qp_7 qs_8 (by omega) (by omega) 12 (by omega)) rfl (fun w hw => ⟨hw.seeOut_ hs_qa (hpre.2), hw.apart hs_qa (hpre.2) (by simp)⟩)) ?_
  rintro _ _ ⟨_, ⟨qp_35, qs_36, b_38, fq_37, rfl, rfl⟩, rfl⟩
  refine jE <| jB ?_
  rcases Bool.eq_false_or_eq_true (b_38) with h_40 | h_40
  · refine jW (cB h_40) <| jF <| jA (jD (v := .slice o_a o_.length o_c) he_5) <| jA (jD (v := .pointer (some ⟨qb, 0, none⟩)) he_3) ?_
    refine jH rfl (jI [0] Tryz.call136 rfl (D_anyKey qb qa qc ql qp_35 qs_36 (by omega) (by omega)) rfl (fun w hw => ⟨hw.seeOut_ hs_qa (hpre.2), hw.apart hs_qa (hpre.2) (by simp)⟩)) ?_
    rintro _ _ ⟨_, ⟨qp_41, qs_42, u_44, fq_43, f_45, rfl, rfl⟩, rfl⟩
    refine jA (jD (v := .pointer (some ⟨qb, 0, none⟩)) he_3) ?_
    refine jH rfl (jI [0] Tryz.call137 rfl (D_val qb qa qc ql qp_41 qs_42 (by omega) (by omega)) rfl (fun w hw => ⟨hw.seeOut_ hs_qa (hpre.2), hw.apart hs_qa (hpre.2) (by simp)⟩)) ?_
    rintro _ _ ⟨_, ⟨qp_47, qs_48, u_50, fq_49, f_51, rfl, rfl⟩, rfl⟩
    refine jA (kW (ps := [(0, str u_44), (1, str u_50)]) (cs := [str u_44, str u_50]) rfl (by kernel_rfl)) ?_
    refine jH rfl (kH (ps := [(0, .agg #[str u_44, str u_50])]) (cur := #[str u_44, str u_50]) kf kh kw rfl (by kernel_rfl) (by decide) (by decide)) ?_
    rintro _ _ ⟨a_53, rfl, rfl⟩
    refine jH rfl (kU 2 (q := 1) (news := ([(u_44, u_50)] : List Cell).flatMap encC) (n' := (o_ ++ ([(u_44, u_50)] : List Cell)).length) (cs' := (o_ ++ ([(u_44, u_50)] : List Cell)).flatMap encC) rfl kf kf ky rfl (by' := 32) rfl rfl rfl rfl rfl (fun w hw => Src.sees (hw.see (i := 0) rfl) (oneC _)) (by (try simp only [LE]); omega) (by (try simp only [LE]); omega) (by simp only [List.length_append, List.length_take, List.length_drop, List.length_cons, List.length_nil] <;> first | rfl | omega) (by simp only [List.flatMap_append])) ?_
    rintro _ _ ⟨a_54, c_55, rfl, rfl⟩
    refine jA (jG (v := .slice a_54 ((o_ ++ ([(u_44, u_50)] : List Cell)).length) c_55) rfl) <| jE <| jB <| jC <| jC <| jF <| jA (jD (v := .pointer (some ⟨qb, 0, none⟩)) he_3) ?_
    refine jH rfl (jI [1] Tryz.call99 rfl (D_once qb qa qc ql qp_47 qs_48 (by omega) (by omega) 40 (by omega)) rfl (fun w hw => ⟨hw.seeOut_ hs_qa (hpre.2), hw.apart hs_qa (hpre.2) (by simp)⟩)) ?_
    rintro _ _ ⟨_, ⟨qp_56, qs_57, b_59, fq_58, rfl, rfl⟩, rfl⟩
    refine jE <| jB ?_
    rcases Bool.eq_false_or_eq_true (b_59) with h_61 | h_61
    · refine jW (cB h_61) <| jC <| jF <| jA (jG (v := iv 0) rfl) <| jE <| jB <| jf <| kD (fun k_ e_ L_ => ∃ y_ : Nat, ∃ v_a : Option Addr, ∃ v_c : Nat, ∃ v_ : List Cell, (y_ ≤ 30) ∧ (okC' (5 + y_) 5000 v_) ∧ e_ 2 = .slice none 0 0 ∧ e_ 3 = .slice v_a v_.length v_c ∧ e_ 5 = nv y_ ∧ L_ = [cb qb qa qc ql qp_56 qs_57, Res.row (.slice a_53 1 1) 48 2 1 (([(u_44, u_50)] : List Cell).flatMap encC), rC v_a v_c v_] ∧ k_ = 31 - y_) _ ⟨0, a_54, c_55, (o_ ++ ([(u_44, u_50)] : List Cell)), (by omega), (by first | exact okC'.mono (okC'.snoc hO (by omega) (by omega)) (by omega) | exact hO.mono (by omega)), he_4, rfl, rfl, rfl, rfl⟩ ?_
      rintro _ e_62 _ ⟨y_, v_a, v_c, v_, hk, hV, he_63, he_64, he_65, rfl, rfl⟩
      have hV1 := hV.1
      refine jC <| jC <| jF <| jA (jD (v := nv y_) he_65) <| jA (jl rfl rfl) <| jE <| jB ?_
      by_cases h_66 : ((y_ : Nat) : Int) < 30
      · refine jW (cB (dT h_66)) <| jT <| jB <| jC <| jf <| jF <| jA (jD (v := .slice v_a v_.length v_c) he_64) ?_
        refine jH rfl (jI [] Tryz.call156 rfl (D_long (5 : UInt8) 60 (by omega) (by omega)) rfl (fun _ _ => trivial)) ?_
        rintro _ _ ⟨_, ⟨u_67, f_68, rfl, rfl⟩, rfl⟩
        refine jA (kW (ps := [(0, str [97]), (1, str u_67)]) (cs := [str [97], str u_67]) rfl (by kernel_rfl)) ?_
        refine jH rfl (kH (ps := [(0, .agg #[str [97], str u_67])]) (cur := #[str [97], str u_67]) kf kh kw rfl (by kernel_rfl) (by decide) (by decide)) ?_
        rintro _ _ ⟨a_70, rfl, rfl⟩
        refine jH rfl (kU 3 (q := 1) (news := ([([97], u_67)] : List Cell).flatMap encC) (n' := (v_ ++ ([([97], u_67)] : List Cell)).length) (cs' := (v_ ++ ([([97], u_67)] : List Cell)).flatMap encC) rfl kf kf ky rfl (by' := 32) rfl rfl rfl rfl rfl (fun w hw => Src.sees (hw.see (i := 0) rfl) (oneC _)) (by (try simp only [LE]); omega) (by (try simp only [LE]); omega) (by simp only [List.length_append, List.length_take, List.length_drop, List.length_cons, List.length_nil] <;> first | rfl | omega) (by simp only [List.flatMap_append])) ?_
        rintro _ _ ⟨a_71, c_72, rfl, rfl⟩
        refine jA (jG (v := .slice a_71 ((v_ ++ ([([97], u_67)] : List Cell)).length) c_72) rfl) <| jE <| jm <| jB <| jF <| jA (jD (v := nv y_) he_65) <| jA (jc (c := ((y_ + 1 : Nat) : Int)) rfl rfl (wr (by omega))) <| jA (jG (v := iv ((y_ + 1 : Nat) : Int)) rfl) <| jE <| kB [1, 1, 1] (A := [cb qb qa qc ql qp_56 qs_57, Res.row (.slice a_53 1 1) 48 2 1 (([(u_44, u_50)] : List Cell).flatMap encC), rC a_71 c_72 (v_ ++ ([([97], u_67)] : List Cell))]) rfl ?_
        refine jq (31 - (y_ + 1)) (by omega) ⟨(y_ + 1), a_71, c_72, (v_ ++ ([([97], u_67)] : List Cell)), (by omega), (okC'.snoc hV (by first | decide | (simp only [List.length_cons, List.length_nil]; omega)) (by omega)), he_63, rfl, rfl, rfl, rfl⟩
      refine jR (cB (dF h_66)) <| jx <| jb <| jb <| jy <| jB <| jC <| jF <| jA (jD (v := .slice v_a v_.length v_c) he_64) <| jA (jG (v := .slice v_a v_.length v_c) rfl) ?_
      refine jE <| jB <| jN <| kM (pick_perm [0, 1] (A := [cb qb qa qc ql qp_56 qs_57, rC v_a v_c v_]) (F := [Res.row (.slice a_53 1 1) 48 2 1 (([(u_44, u_50)] : List Cell).flatMap encC)]) rfl).symm <| jV (.inl rfl) rfl (jJ (v := .slice v_a v_.length v_c) rfl) (tS 2 _) ?_
      exact ⟨qp_56, qs_57, v_a, v_c, v_, (by omega), (by first | exact hV.mono (by omega) | exact okC'.mono (okC'.snoc hO (by omega) (by omega)) (by omega) | exact hO.mono (by omega)), rfl, rfl⟩
    refine jR (cB h_61) <| jT <| jB <| jC <| jF <| jA (jD (v := .slice a_54 ((o_ ++ ([(u_44, u_50)] : List Cell)).length) c_55) rfl) <| jA (jG (v := .slice a_54 ((o_ ++ ([(u_44, u_50)] : List Cell)).length) c_55) rfl) <| jE <| jB <| jN ?_
    refine kM (pick_perm [0, 1] (A := [cb qb qa qc ql qp_56 qs_57, rC a_54 c_55 (o_ ++ ([(u_44, u_50)] : List Cell))]) (F := [Res.row (.slice a_53 1 1) 48 2 1 (([(u_44, u_50)] : List Cell).flatMap encC)]) rfl).symm <| jV (.inl rfl) rfl (jJ (v := .slice a_54 ((o_ ++ ([(u_44, u_50)] : List Cell)).length) c_55) rfl) (tS 2 _) ?_
    exact ⟨qp_56, qs_57, a_54, c_55, (o_ ++ ([(u_44, u_50)] : List Cell)), (by omega), (by first | exact hV.mono (by omega) | exact okC'.mono (okC'.snoc hO (by omega) (by omega)) (by omega) | exact hO.mono (by omega)), rfl, rfl⟩
  refine jR (cB h_40) <| jT <| jB <| jC <| jC <| jF <| jA (jD (v := .pointer (some ⟨qb, 0, none⟩)) he_3) ?_
  refine jH rfl (jI [0] Tryz.call99 rfl (D_once qb qa qc ql qp_35 qs_36 (by omega) (by omega) 40 (by omega)) rfl (fun w hw => ⟨hw.seeOut_ hs_qa (hpre.2), hw.apart hs_qa (hpre.2) (by simp)⟩)) ?_
  rintro _ _ ⟨_, ⟨qp_73, qs_74, b_76, fq_75, rfl, rfl⟩, rfl⟩
  refine jE <| jB ?_
  rcases Bool.eq_false_or_eq_true (b_76) with h_78 | h_78
  · refine jW (cB h_78) <| jC <| jF <| jA (jG (v := iv 0) rfl) <| jE <| jB <| jf <| kD (fun k_ e_ L_ => ∃ y_ : Nat, ∃ v_a : Option Addr, ∃ v_c : Nat, ∃ v_ : List Cell, (y_ ≤ 30) ∧ (okC' (5 + y_) 5000 v_) ∧ e_ 2 = .slice none 0 0 ∧ e_ 3 = .slice v_a v_.length v_c ∧ e_ 5 = nv y_ ∧ L_ = [cb qb qa qc ql qp_73 qs_74, rC v_a v_c v_] ∧ k_ = 31 - y_) _ ⟨0, o_a, o_c, o_, (by omega), (by first | exact okC'.mono (okC'.snoc hO (by omega) (by omega)) (by omega) | exact hO.mono (by omega)), he_4, he_5, rfl, rfl, rfl⟩ ?_
    rintro _ e_79 _ ⟨y_, v_a, v_c, v_, hk, hV, he_80, he_81, he_82, rfl, rfl⟩
    have hV1 := hV.1
    refine jC <| jC <| jF <| jA (jD (v := nv y_) he_82) <| jA (jl rfl rfl) <| jE <| jB ?_
    by_cases h_83 : ((y_ : Nat) : Int) < 30
    · refine jW (cB (dT h_83)) <| jT <| jB <| jC <| jf <| jF <| jA (jD (v := .slice v_a v_.length v_c) he_81) ?_
      refine jH rfl (jI [] Tryz.call156 rfl (D_long (5 : UInt8) 60 (by omega) (by omega)) rfl (fun _ _ => trivial)) ?_
      rintro _ _ ⟨_, ⟨u_84, f_85, rfl, rfl⟩, rfl⟩
      refine jA (kW (ps := [(0, str [97]), (1, str u_84)]) (cs := [str [97], str u_84]) rfl (by kernel_rfl)) ?_
      refine jH rfl (kH (ps := [(0, .agg #[str [97], str u_84])]) (cur := #[str [97], str u_84]) kf kh kw rfl (by kernel_rfl) (by decide) (by decide)) ?_
      rintro _ _ ⟨a_87, rfl, rfl⟩
      refine jH rfl (kU 2 (q := 1) (news := ([([97], u_84)] : List Cell).flatMap encC) (n' := (v_ ++ ([([97], u_84)] : List Cell)).length) (cs' := (v_ ++ ([([97], u_84)] : List Cell)).flatMap encC) rfl kf kf ky rfl (by' := 32) rfl rfl rfl rfl rfl (fun w hw => Src.sees (hw.see (i := 0) rfl) (oneC _)) (by (try simp only [LE]); omega) (by (try simp only [LE]); omega) (by simp only [List.length_append, List.length_take, List.length_drop, List.length_cons, List.length_nil] <;> first | rfl | omega) (by simp only [List.flatMap_append])) ?_
      rintro _ _ ⟨a_88, c_89, rfl, rfl⟩
      refine jA (jG (v := .slice a_88 ((v_ ++ ([([97], u_84)] : List Cell)).length) c_89) rfl) <| jE <| jm <| jB <| jF <| jA (jD (v := nv y_) he_82) <| jA (jc (c := ((y_ + 1 : Nat) : Int)) rfl rfl (wr (by omega))) <| jA (jG (v := iv ((y_ + 1 : Nat) : Int)) rfl) <| jE <| kB [1, 1] (A := [cb qb qa qc ql qp_73 qs_74, rC a_88 c_89 (v_ ++ ([([97], u_84)] : List Cell))]) rfl ?_
      refine jq (31 - (y_ + 1)) (by omega) ⟨(y_ + 1), a_88, c_89, (v_ ++ ([([97], u_84)] : List Cell)), (by omega), (okC'.snoc hV (by first | decide | (simp only [List.length_cons, List.length_nil]; omega)) (by omega)), he_80, rfl, rfl, rfl, rfl⟩
    refine jR (cB (dF h_83)) <| jx <| jb <| jb <| jy <| jB <| jC <| jF <| jA (jD (v := .slice v_a v_.length v_c) he_81) <| jA (jG (v := .slice v_a v_.length v_c) rfl) ?_
    refine jE <| jB <| jN <| jV (.inl rfl) rfl (jJ (v := .slice v_a v_.length v_c) rfl) (List.Sublist.refl _) ?_
    exact ⟨qp_73, qs_74, v_a, v_c, v_, (by omega), (by first | exact hV.mono (by omega) | exact okC'.mono (okC'.snoc hO (by omega) (by omega)) (by omega) | exact hO.mono (by omega)), rfl, rfl⟩
  refine jR (cB h_78) <| jT <| jB <| jC <| jF <| jA (jD (v := .slice o_a o_.length o_c) he_5) <| jA (jG (v := .slice o_a o_.length o_c) rfl) <| jE <| jB <| jN ?_
  refine jV (.inl rfl) rfl (jJ (v := .slice o_a o_.length o_c) rfl) (List.Sublist.refl _) ?_
  exact ⟨qp_73, qs_74, o_a, o_c, o_, (by omega), (by first | exact hV.mono (by omega) | exact okC'.mono (okC'.snoc hO (by omega) (by omega)) (by omega) | exact hO.mono (by omega)), rfl, rfl⟩

theorem D_jour22 (qb : Nat) (qa : Option Addr) (qc : Nat) (ql : Str) (qp : Nat) (qs : Int) (hql : ql.length ≤ 1048576) (hqp : qp ≤ ql.length)  :
    Ct Tryz.prog 155 [.pointer (some ⟨qb, 0, none⟩)] [cb qb qa qc ql qp qs] (fun w => seesC w qa qc ql [cb qb qa qc ql qp qs]) (fun v A' => ∃ qp' qs' r0t r0j, qp' ≤ ql.length ∧ (r0t.length ≤ 100000) ∧ v = .agg #[str r0t, .int .i64 r0j] ∧ A' = [cb qb qa qc ql qp' qs']) := by
  refine Ct.intro Tryz.func155 rfl Tryz.ntmps155 (lb rfl) fun w0 hpre => ?_
  have hs_qa : Sees w0 _ _ _ _ := hpre.1
  refine jC <| jF ?_
  refine jH rfl (jo (z := .agg #[str [], iv 0]) (cs := [str [], iv 0]) gN rfl) ?_
  rintro _ _ ⟨b_1, rfl, rfl⟩
  refine jE <| jB <| jC <| jF <| jA (kW (ps := []) (cs := [str [], iv 0]) rfl (by kernel_rfl)) ?_
  refine jH rfl (jo (z := .agg #[str [], iv 0]) (cs := [str [], iv 0]) gN rfl) ?_
  rintro _ _ ⟨b_2, rfl, rfl⟩
  refine jH rfl (ja 0 (vs := [str [], iv 0]) (cs' := [str [], iv 0]) rfl rfl rfl rfl kl rfl rfl (lb rfl) rfl) ?_
  rintro _ _ rfl
  refine jE <| jB <| jC <| jF <| jA (jD (v := .pointer (some ⟨qb, 0, none⟩)) rfl) ?_
  refine jH rfl (jI [2] Tryz.call73 rfl (D_below qb qa qc ql qp qs (by omega) (by omega) 2 (by omega)) rfl (fun w hw => ⟨hw.seeOut_ hs_qa (hpre.2), hw.apart hs_qa (hpre.2) (by simp)⟩)) ?_
  rintro _ _ ⟨_, ⟨qp_3, qs_4, n_6, fq_5, f_7, rfl, rfl⟩, rfl⟩
  refine jA (jc (c := ((1 + n_6 : Nat) : Int)) rfl rfl (wr (by omega))) <| jA (jG (v := iv ((1 + n_6 : Nat) : Int)) rfl) <| jE <| jB <| jC <| jC <| jF <| jA (jG (v := iv 0) rfl) <| jE <| jB ?_
  refine jf <| kD (fun k_ e_ L_ => ∃ i_ : Nat, ∃ p_q : Nat, ∃ s_q : Int, ∃ z_ : Int, ∃ t_ : Str, ∃ j_ : Int, (p_q ≤ ql.length) ∧ (i_ ≤ 5) ∧ (1 ≤ z_ ∧ z_ ≤ 10 + ((i_ : Nat) : Int)) ∧ (t_.length ≤ 100000) ∧ e_ 0 = .pointer (some ⟨qb, 0, none⟩) ∧ e_ 2 = .pointer (some ⟨b_1, 0, none⟩) ∧ e_ 3 = .pointer (some ⟨b_2, 0, none⟩) ∧ e_ 4 = iv z_ ∧ e_ 5 = nv i_ ∧ L_ = [cb qb qa qc ql p_q s_q, bk b_2 29 [str t_, iv j_], bk b_1 29 [str [], iv 0]] ∧ k_ = 6 - i_) _ ⟨0, qp_3, qs_4, ((1 + n_6 : Nat) : Int), [], 0, (by omega), (by omega), (by omega), (by simp), rfl, rfl, rfl, rfl, rfl, rfl, rfl⟩ ?_
  rintro _ e_9 _ ⟨i_, p_q, s_q, z_, t_, j_, hpq_, hi, hz, ht, he_10, he_11, he_12, he_13, he_14, rfl, rfl⟩
  refine jC <| jC <| jF <| jA (jD (v := nv i_) he_14) <| jA (jD (v := .pointer (some ⟨qb, 0, none⟩)) he_10) ?_
  refine jH rfl (jI [0] Tryz.call73 rfl (D_below qb qa qc ql p_q s_q (by omega) (by omega) 5 (by omega)) rfl (fun w hw => ⟨hw.seeOut_ hs_qa (hpre.2), hw.apart hs_qa (hpre.2) (by simp)⟩)) ?_
  rintro _ _ ⟨_, ⟨qp_15, qs_16, n_18, fq_17, f_19, rfl, rfl⟩, rfl⟩
  refine jA (jl rfl rfl) <| jE <| jB ?_
  by_cases h_21 : ((i_ : Nat) : Int) < ((n_18 : Nat) : Int)
  · refine jW (cB (dT h_21)) <| jT <| jB <| jC <| jf <| jC <| kJ [bk b_2 29 [str t_, iv j_]] 9 mixed (by simp) <| jw 0 rfl (jO 0 (vs := [str t_, iv j_]) rfl he_12 kp kl rfl rfl) <| jL 1 rfl (jD (v := iv z_) he_13) <| jL 2 rfl (jD (v := .pointer (some ⟨qb, 0, none⟩)) he_10) ?_
    refine jj (i := 3) ?_
    refine jz rfl rfl (jI [0] Tryz.call181 rfl (D_list21 qb qa qc ql qp_15 qs_16 (by omega) (by omega)) rfl (fun w hw => ⟨hw.seeOut_ hs_qa (hpre.2), hw.apart hs_qa (hpre.2) (by simp)⟩)) ?_
    rintro _ _ ⟨_, ⟨qp_28, qs_29, l_31a, l_31c, l_31, fq_30, f_32, rfl, rfl⟩, rfl⟩
    have hO1_ := f_32.1
    refine ⟨(by simp), ?_⟩
    refine jj (i := 4) ?_
    refine jz rfl rfl (jI [] Tryz.call41 rfl (Y_sRec z_ l_31a l_31c l_31 (f_32.okC (by decide) (by decide))) rfl (fun w hw => hw.see (i := 1) rfl)) ?_
    rintro _ _ ⟨_, ⟨rfl, rfl⟩, rfl⟩
    have hrl_35 := recText_len z_ l_31
    refine ⟨(by simp), ?_⟩
    refine jj (i := 5) ?_
    refine jz rfl rfl (jI [] Tryz.call180 rfl (Y_sAdd t_ j_ (recText z_ l_31) (by omega) (by omega)) rfl (fun _ _ => trivial)) ?_
    rintro _ _ ⟨_, ⟨u_40, b_41, e_42, rfl, rfl⟩, rfl⟩
    have hl_43 : u_40.length ≤ 100000 := addT_len e_42 (by omega) (by omega)
    refine ⟨(by simp), ?_⟩
    refine jL 6 rfl (jD (v := .tuple #[.agg #[str u_40, iv j_], .bool b_41]) rfl) <| jL 7 rfl (je (v := .agg #[str u_40, iv j_]) rfl rfl) <| jL 8 rfl (je (v := .bool b_41) rfl rfl) <| jj (i := 9) ?_
    refine JX.ls rfl (ja 2 (vs := [str u_40, iv j_]) (cs' := [str u_40, iv j_]) rfl he_12 rfl rfl kl rfl rfl (lb rfl) rfl) ?_
    rintro _ _ rfl
    refine jB <| jC <| jF <| jA (jD (v := iv z_) he_13) <| jA (jc (c := z_ + 1) rfl rfl (wr (by omega))) <| jA (jG (v := iv (z_ + 1)) rfl) <| jE <| jB <| jC <| jC ?_
    refine jF <| jA (jD (v := .pointer (some ⟨qb, 0, none⟩)) he_10) ?_
    refine jH rfl (jI [0] Tryz.call99 rfl (D_once qb qa qc ql qp_28 qs_29 (by omega) (by omega) 4 (by omega)) rfl (fun w hw => ⟨hw.seeOut_ hs_qa (hpre.2), hw.apart hs_qa (hpre.2) (by simp)⟩)) ?_
    rintro _ _ ⟨_, ⟨qp_44, qs_45, b_47, fq_46, rfl, rfl⟩, rfl⟩
    refine jE <| jB ?_
    rcases Bool.eq_false_or_eq_true (b_47) with h_49 | h_49
    · refine jW (cB h_49) <| jF <| jK (jO 2 (vs := [str u_40, iv j_]) rfl he_12 kp kl rfl rfl) ?_
      refine jH rfl (jI [] Tryz.call182 rfl (Y_sFlush u_40 j_ (by omega)) rfl (fun _ _ => trivial)) ?_
      rintro _ _ ⟨_, ⟨n_50, e_51, rfl, rfl⟩, rfl⟩
      refine jH rfl (ja 2 (vs := [str u_40, iv n_50]) (cs' := [str u_40, iv n_50]) rfl he_12 rfl rfl kl rfl rfl (lb rfl) rfl) ?_
      rintro _ _ rfl
      refine jE <| jB <| jC <| jF <| jA (jD (v := .pointer (some ⟨qb, 0, none⟩)) he_10) ?_
      refine jH rfl (jI [0] Tryz.call99 rfl (D_once qb qa qc ql qp_44 qs_45 (by omega) (by omega) 12 (by omega)) rfl (fun w hw => ⟨hw.seeOut_ hs_qa (hpre.2), hw.apart hs_qa (hpre.2) (by simp)⟩)) ?_
      rintro _ _ ⟨_, ⟨qp_52, qs_53, b_55, fq_54, rfl, rfl⟩, rfl⟩
      refine jE <| jB ?_
      rcases Bool.eq_false_or_eq_true (b_55) with h_57 | h_57
      · refine jW (cB h_57) <| jF <| jA (jD (v := .pointer (some ⟨qb, 0, none⟩)) he_10) ?_
        refine jH rfl (jI [0] Tryz.call73 rfl (D_below qb qa qc ql qp_52 qs_53 (by omega) (by omega) 4 (by omega)) rfl (fun w hw => ⟨hw.seeOut_ hs_qa (hpre.2), hw.apart hs_qa (hpre.2) (by simp)⟩)) ?_
        rintro _ _ ⟨_, ⟨qp_58, qs_59, n_61, fq_60, f_62, rfl, rfl⟩, rfl⟩
        refine jA (jc (c := ((1 + n_61 : Nat) : Int)) rfl rfl (wr (by omega))) <| jA (jG (v := iv ((1 + n_61 : Nat) : Int)) rfl) <| jE <| jm <| jB <| jF <| jA (jD (v := nv i_) he_14) <| jA (jc (c := ((i_ + 1 : Nat) : Int)) rfl rfl (wr (by omega))) <| jA (jG (v := iv ((i_ + 1 : Nat) : Int)) rfl) <| jE ?_
        refine kB [0, 1, 1] (A := [cb qb qa qc ql qp_58 qs_59, bk b_2 29 [str u_40, iv n_50], bk b_1 29 [str [], iv 0]]) rfl ?_
        refine jq (6 - (i_ + 1)) (by omega) ⟨(i_ + 1), qp_58, qs_59, ((1 + n_61 : Nat) : Int), u_40, n_50, (by omega), (by omega), (by omega), (by omega), he_10, he_11, he_12, rfl, rfl, rfl, rfl⟩
      refine jR (cB h_57) <| jT <| jm <| jB <| jF <| jA (jD (v := nv i_) he_14) <| jA (jc (c := ((i_ + 1 : Nat) : Int)) rfl rfl (wr (by omega))) <| jA (jG (v := iv ((i_ + 1 : Nat) : Int)) rfl) <| jE <| kB [0, 1, 1] (A := [cb qb qa qc ql qp_52 qs_53, bk b_2 29 [str u_40, iv n_50], bk b_1 29 [str [], iv 0]]) rfl ?_
      refine jq (6 - (i_ + 1)) (by omega) ⟨(i_ + 1), qp_52, qs_53, (z_ + 1), u_40, n_50, (by omega), (by omega), (by omega), (by omega), he_10, he_11, he_12, rfl, rfl, rfl, rfl⟩
    refine jR (cB h_49) <| jT <| jB <| jC <| jF <| jA (jD (v := .pointer (some ⟨qb, 0, none⟩)) he_10) ?_
    refine jH rfl (jI [0] Tryz.call99 rfl (D_once qb qa qc ql qp_44 qs_45 (by omega) (by omega) 12 (by omega)) rfl (fun w hw => ⟨hw.seeOut_ hs_qa (hpre.2), hw.apart hs_qa (hpre.2) (by simp)⟩)) ?_
    rintro _ _ ⟨_, ⟨qp_64, qs_65, b_67, fq_66, rfl, rfl⟩, rfl⟩
    refine jE <| jB ?_
    rcases Bool.eq_false_or_eq_true (b_67) with h_69 | h_69
    · refine jW (cB h_69) <| jF <| jA (jD (v := .pointer (some ⟨qb, 0, none⟩)) he_10) ?_
      refine jH rfl (jI [0] Tryz.call73 rfl (D_below qb qa qc ql qp_64 qs_65 (by omega) (by omega) 4 (by omega)) rfl (fun w hw => ⟨hw.seeOut_ hs_qa (hpre.2), hw.apart hs_qa (hpre.2) (by simp)⟩)) ?_
      rintro _ _ ⟨_, ⟨qp_70, qs_71, n_73, fq_72, f_74, rfl, rfl⟩, rfl⟩
      refine jA (jc (c := ((1 + n_73 : Nat) : Int)) rfl rfl (wr (by omega))) <| jA (jG (v := iv ((1 + n_73 : Nat) : Int)) rfl) <| jE <| jm <| jB <| jF <| jA (jD (v := nv i_) he_14) <| jA (jc (c := ((i_ + 1 : Nat) : Int)) rfl rfl (wr (by omega))) <| jA (jG (v := iv ((i_ + 1 : Nat) : Int)) rfl) <| jE ?_
      refine kB [0, 1, 1] (A := [cb qb qa qc ql qp_70 qs_71, bk b_2 29 [str u_40, iv j_], bk b_1 29 [str [], iv 0]]) rfl ?_
      refine jq (6 - (i_ + 1)) (by omega) ⟨(i_ + 1), qp_70, qs_71, ((1 + n_73 : Nat) : Int), u_40, j_, (by omega), (by omega), (by omega), (by omega), he_10, he_11, he_12, rfl, rfl, rfl, rfl⟩
    refine jR (cB h_69) <| jT <| jm <| jB <| jF <| jA (jD (v := nv i_) he_14) <| jA (jc (c := ((i_ + 1 : Nat) : Int)) rfl rfl (wr (by omega))) <| jA (jG (v := iv ((i_ + 1 : Nat) : Int)) rfl) <| jE <| kB [0, 1, 1] (A := [cb qb qa qc ql qp_64 qs_65, bk b_2 29 [str u_40, iv j_], bk b_1 29 [str [], iv 0]]) rfl ?_
    refine jq (6 - (i_ + 1)) (by omega) ⟨(i_ + 1), qp_64, qs_65, (z_ + 1), u_40, j_, (by omega), (by omega), (by omega), (by omega), he_10, he_11, he_12, rfl, rfl, rfl, rfl⟩
  refine jR (cB (dF h_21)) <| jx <| jb <| jb <| jy <| jB <| jC <| jC <| jF <| jA (jD (v := .pointer (some ⟨qb, 0, none⟩)) he_10) ?_
  refine jH rfl (jI [0] Tryz.call99 rfl (D_once qb qa qc ql qp_15 qs_16 (by omega) (by omega) 4 (by omega)) rfl (fun w hw => ⟨hw.seeOut_ hs_qa (hpre.2), hw.apart hs_qa (hpre.2) (by simp)⟩)) ?_
  rintro _ _ ⟨_, ⟨qp_76, qs_77, b_79, fq_78, rfl, rfl⟩, rfl⟩
  refine jE <| jB ?_
  rcases Bool.eq_false_or_eq_true (b_79) with h_81 | h_81
  · refine jW (cB h_81) <| kJ [bk b_2 29 [str t_, iv j_]] 8 mixed (by simp) <| jw 0 rfl (jO 0 (vs := [str t_, iv j_]) rfl he_12 kp kl rfl rfl) <| jL 1 rfl (jD (v := .pointer (some ⟨qb, 0, none⟩)) he_10) <| jj (i := 2) ?_
    refine jz rfl rfl (kH (ps := [(0, str [51, 32, 54, 49, 61]), (1, str [120, 10]), (2, str [10])]) (cur := #[str [51, 32, 54, 49, 61], str [120, 10], str [10]]) ku kt Tryz.zeroValue9 rfl (by kernel_rfl) (by decide) (by decide)) ?_
    rintro _ _ ⟨a_83, rfl, rfl⟩
    refine ⟨(by simp), ?_⟩
    refine jj (i := 3) ?_
    refine jz rfl rfl (jI [1, 0] Tryz.call158 rfl (D_pick qb qa qc ql qp_76 qs_77 a_83 3 ([[51, 32, 54, 49, 61], [120, 10], [10]] : List Str) (by omega) (by omega) (by simp) (by simp)) rfl (fun w hw => ⟨hw.seeOut_ hs_qa (hpre.2), hw.apart hs_qa (hpre.2) (by simp)⟩)) ?_
    rintro _ _ ⟨_, ⟨qp_90, qs_91, u_93, fq_92, f_94, rfl, rfl⟩, rfl⟩
    have hlu_93 : u_93.length ≤ 64 := by have hx_ := f_94; simp only [List.mem_cons, List.not_mem_nil, or_false] at hx_; rcases hx_ with hx_ | hx_ | hx_ <;> first | (rw [hx_]; decide) | (rw [hx_]; omega)
    refine ⟨(by simp), ?_⟩
    refine jj (i := 4) ?_
    refine jz rfl rfl (jI [] Tryz.call180 rfl (Y_sAdd t_ j_ u_93 (by omega) (by omega)) rfl (fun _ _ => trivial)) ?_
    rintro _ _ ⟨_, ⟨u_100, b_101, e_102, rfl, rfl⟩, rfl⟩
    have hl_103 : u_100.length ≤ 100000 := addT_len e_102 (by omega) (by omega)
    refine ⟨(by simp), ?_⟩
    refine jL 5 rfl (jD (v := .tuple #[.agg #[str u_100, iv j_], .bool b_101]) rfl) <| jL 6 rfl (je (v := .agg #[str u_100, iv j_]) rfl rfl) <| jL 7 rfl (je (v := .bool b_101) rfl rfl) <| jj (i := 8) ?_
    refine JX.ls rfl (ja 1 (vs := [str u_100, iv j_]) (cs' := [str u_100, iv j_]) rfl he_12 rfl rfl kl rfl rfl (lb rfl) rfl) ?_
    rintro _ _ rfl
    refine jB <| jC <| jF <| jK (jO 1 (vs := [str u_100, iv j_]) rfl he_12 kp kl rfl rfl) ?_
    refine jH rfl (ja 2 (vs := [str u_100, iv j_]) (cs' := [str u_100, iv j_]) rfl he_11 rfl rfl kl rfl rfl (lb rfl) rfl) ?_
    rintro _ _ rfl
    refine jE <| jB <| jN <| jV (.inl rfl) rfl (kA (jO 2 (vs := [str u_100, iv j_]) rfl he_11 kp kl rfl rfl) ⟨_, he_11⟩) (tS 1 _) ?_
    exact ⟨qp_90, qs_91, u_100, j_, (by omega), (by (try simp only [List.length_nil]); omega), rfl, rfl⟩
  refine jR (cB h_81) <| jT <| jB <| jC <| jF <| jK (jO 1 (vs := [str t_, iv j_]) rfl he_12 kp kl rfl rfl) ?_
  refine jH rfl (ja 2 (vs := [str t_, iv j_]) (cs' := [str t_, iv j_]) rfl he_11 rfl rfl kl rfl rfl (lb rfl) rfl) ?_
  rintro _ _ rfl
  refine jE <| jB <| jN <| jV (.inl rfl) rfl (kA (jO 2 (vs := [str t_, iv j_]) rfl he_11 kp kl rfl rfl) ⟨_, he_11⟩) (tS 1 _) ?_
  exact ⟨qp_76, qs_77, t_, j_, (by omega), (by (try simp only [List.length_nil]); omega), rfl, rfl⟩

theorem D_jany22 (qb : Nat) (qa : Option Addr) (qc : Nat) (ql : Str) (qp : Nat) (qs : Int) (hql : ql.length ≤ 1048576) (hqp : qp ≤ ql.length)  :
    Ct Tryz.prog 131 [.pointer (some ⟨qb, 0, none⟩)] [cb qb qa qc ql qp qs] (fun w => seesC w qa qc ql [cb qb qa qc ql qp qs]) (fun v A' => ∃ qp' qs' r0t r0j, qp' ≤ ql.length ∧ (r0t.length ≤ 100000) ∧ v = .agg #[str r0t, .int .i64 r0j] ∧ A' = [cb qb qa qc ql qp' qs']) := by
  refine Ct.intro Tryz.func131 rfl Tryz.ntmps131 (lb rfl) fun w0 hpre => ?_
  have hs_qa : Sees w0 _ _ _ _ := hpre.1
  refine jC <| jF ?_
  refine jH rfl (jo (z := .agg #[str [], iv 0]) (cs := [str [], iv 0]) gN rfl) ?_
  rintro _ _ ⟨b_1, rfl, rfl⟩
  refine jE <| jB <| jC <| jF <| jA (jD (v := .pointer (some ⟨qb, 0, none⟩)) rfl) ?_
  refine jH rfl (jI [1] Tryz.call155 rfl (D_jour22 qb qa qc ql qp qs (by omega) (by omega)) rfl (fun w hw => ⟨hw.seeOut_ hs_qa (hpre.2), hw.apart hs_qa (hpre.2) (by simp)⟩)) ?_
  rintro _ _ ⟨_, ⟨qp_2, qs_3, J_5t, J_5j, fq_4, f_6, rfl, rfl⟩, rfl⟩
  refine jH rfl (jo (z := .agg #[str [], iv 0]) (cs := [str [], iv 0]) gN rfl) ?_
  rintro _ _ ⟨b_8, rfl, rfl⟩
  refine jH rfl (ja 0 (vs := [str J_5t, iv J_5j]) (cs' := [str J_5t, iv J_5j]) rfl rfl rfl rfl kl rfl rfl (lb rfl) rfl) ?_
  rintro _ _ rfl
  refine jE <| jB <| jC <| jC <| jF <| jA (jD (v := .pointer (some ⟨qb, 0, none⟩)) rfl) ?_
  refine jH rfl (jI [1] Tryz.call73 rfl (D_below qb qa qc ql qp_2 qs_3 (by omega) (by omega) 12 (by omega)) rfl (fun w hw => ⟨hw.seeOut_ hs_qa (hpre.2), hw.apart hs_qa (hpre.2) (by simp)⟩)) ?_
  rintro _ _ ⟨_, ⟨qp_9, qs_10, n_12, fq_11, f_13, rfl, rfl⟩, rfl⟩
  refine jE <| jB <| jf <| jC <| jF <| jA (kO rfl rfl) <| jA (jG (v := .bool (decide (((n_12 : Nat) : Int) = 0))) rfl) <| jE <| jB ?_
  by_cases h_15 : ((n_12 : Nat) : Int) = 0
  · refine jW (cB (dT h_15)) <| jF <| jA (jD (v := .pointer (some ⟨qb, 0, none⟩)) rfl) ?_
    refine jH rfl (kH (ps := [(0, iv (-1)), (1, iv 0), (2, iv 5), (3, iv 100000)]) (cur := #[iv (-1), iv 0, iv 5, iv 100000]) Tryz.underlying41 gA Tryz.zeroValue3 rfl (by kernel_rfl) (by decide) (by decide)) ?_
    rintro _ _ ⟨a_16, rfl, rfl⟩
    refine jH rfl (jI [1, 0] Tryz.call98 rfl (D_pickInt qb qa qc ql qp_9 qs_10 a_16 4 ([-1, 0, 5, 100000] : List Int) (by omega) (by omega) (by simp) (by simp)) rfl (fun w hw => ⟨hw.seeOut_ hs_qa (hpre.2), hw.apart hs_qa (hpre.2) (by simp)⟩)) ?_
    rintro _ _ ⟨_, ⟨qp_17, qs_18, n_20, fq_19, f_21, rfl, rfl⟩, rfl⟩
    have hbn_20 : -9223372036854775808 ≤ n_20 ∧ n_20 ≤ 9223372036854775807 := by have hx_ := f_21; simp only [List.mem_cons, List.not_mem_nil, or_false] at hx_; omega
    refine jA (jQ fo29_1 rfl) ?_
    refine jH rfl (ja 1 (vs := [iv n_20]) (cs' := [str J_5t, iv n_20]) rfl rfl rfl rfl gA rfl rfl (lb rfl) rfl) ?_
    rintro _ _ rfl
    refine jE <| jm <| jB <| jC <| jF <| jK (jO 1 (vs := [str J_5t, iv n_20]) rfl rfl kp kl rfl rfl) ?_
    refine jH rfl (ja 2 (vs := [str J_5t, iv n_20]) (cs' := [str J_5t, iv n_20]) rfl rfl rfl rfl kl rfl rfl (lb rfl) rfl) ?_
    rintro _ _ rfl
    refine jE <| jB <| jN <| jV (.inl rfl) rfl (kA (jO 2 (vs := [str J_5t, iv n_20]) rfl rfl kp kl rfl rfl) ⟨_, rfl⟩) (tS 1 _) ?_
    exact ⟨qp_17, qs_18, J_5t, n_20, (by omega), (by (try simp only [List.length_nil]); omega), rfl, rfl⟩
  refine jR (cB (dF h_15)) <| jC <| jF <| jA (kO rfl rfl) <| jA (jG (v := .bool (decide (((n_12 : Nat) : Int) = 1))) rfl) <| jE <| jB ?_
  by_cases h_23 : ((n_12 : Nat) : Int) = 1
  · refine jW (cB (dT h_23)) <| jF <| jA (jD (v := .pointer (some ⟨qb, 0, none⟩)) rfl) ?_
    refine jH rfl (jI [0] Tryz.call73 rfl (D_below qb qa qc ql qp_9 qs_10 (by omega) (by omega) 2 (by omega)) rfl (fun w hw => ⟨hw.seeOut_ hs_qa (hpre.2), hw.apart hs_qa (hpre.2) (by simp)⟩)) ?_
    rintro _ _ ⟨_, ⟨qp_24, qs_25, n_27, fq_26, f_28, rfl, rfl⟩, rfl⟩
    refine jA (jc (c := ((20000 + n_27 : Nat) : Int)) rfl rfl (wr (by omega))) ?_
    refine jH rfl (jI [] Tryz.call156 rfl (D_long (10 : UInt8) ((20000 + n_27 : Nat) : Int) (by omega) (by omega)) rfl (fun _ _ => trivial)) ?_
    rintro _ _ ⟨_, ⟨u_30, f_31, rfl, rfl⟩, rfl⟩
    refine jA (jQ fo29_0 rfl) ?_
    refine jH rfl (ja 1 (vs := [str u_30]) (cs' := [str u_30, iv J_5j]) rfl rfl rfl rfl kt rfl rfl (lb rfl) rfl) ?_
    rintro _ _ rfl
    refine jE <| jm <| jB <| jC <| jF <| jK (jO 1 (vs := [str u_30, iv J_5j]) rfl rfl kp kl rfl rfl) ?_
    refine jH rfl (ja 2 (vs := [str u_30, iv J_5j]) (cs' := [str u_30, iv J_5j]) rfl rfl rfl rfl kl rfl rfl (lb rfl) rfl) ?_
    rintro _ _ rfl
    refine jE <| jB <| jN <| jV (.inl rfl) rfl (kA (jO 2 (vs := [str u_30, iv J_5j]) rfl rfl kp kl rfl rfl) ⟨_, rfl⟩) (tS 1 _) ?_
    exact ⟨qp_24, qs_25, u_30, J_5j, (by omega), (by (try simp only [List.length_nil]); omega), rfl, rfl⟩
  refine jR (cB (dF h_23)) <| jT <| jm <| jB <| jC <| jF <| jK (jO 1 (vs := [str J_5t, iv J_5j]) rfl rfl kp kl rfl rfl) ?_
  refine jH rfl (ja 2 (vs := [str J_5t, iv J_5j]) (cs' := [str J_5t, iv J_5j]) rfl rfl rfl rfl kl rfl rfl (lb rfl) rfl) ?_
  rintro _ _ rfl
  refine jE <| jB <| jN <| jV (.inl rfl) rfl (kA (jO 2 (vs := [str J_5t, iv J_5j]) rfl rfl kp kl rfl rfl) ⟨_, rfl⟩) (tS 1 _) ?_
  exact ⟨qp_9, qs_10, J_5t, J_5j, (by omega), (by (try simp only [List.length_nil]); omega), rfl, rfl⟩

set_option maxRecDepth 4000 in
set_option maxHeartbeats 1000000 in
theorem D_disk23 (qb : Nat) (qa : Option Addr) (qc : Nat) (ql : Str) (qp : Nat) (qs : Int) (hql : ql.length ≤ 1048576) (hqp : qp ≤ ql.length) :
    Ct Tryz.prog 130 [.pointer (some ⟨qb, 0, none⟩)] [cb qb qa qc ql qp qs] (fun w => seesC w qa qc ql [cb qb qa qc ql qp qs]) (fun v A' => ∃ qp' qs' y, qp' ≤ ql.length ∧ Drawn2 y ∧ v = .agg #[.slice y.a y.l.length y.c, str y.jt, .int .i64 y.js] ∧ A' = [cb qb qa qc ql qp' qs', .rows (rdsD y)]) := by
  refine Ct.intro Tryz.func130 rfl Tryz.ntmps130 (lb rfl) fun w0 hpre => ?_
  have hs_qa : Sees w0 _ _ _ _ := hpre.1
  refine jC <| jF ?_
  refine jH rfl (jo (z := .agg #[.slice none 0 0, str [], iv 0]) (cs := [.slice none 0 0, str [], iv 0]) ko rfl) ?_
  rintro _ _ ⟨b_1, rfl, rfl⟩
  refine jE <| jB <| jC <| jF <| jA (jD (v := .pointer (some ⟨qb, 0, none⟩)) rfl) ?_
  refine jH rfl (jI [1] Tryz.call135 rfl (D_store qb qa qc ql qp qs (by omega) (by omega)) rfl (fun w hw => ⟨hw.seeOut_ hs_qa (hpre.2), hw.apart hs_qa (hpre.2) (by simp)⟩)) ?_
  rintro _ _ ⟨_, ⟨qp_2, qs_3, l_5a, l_5c, l_5, fq_4, f_6, rfl, rfl⟩, rfl⟩
  have hO1_ := f_6.1
  refine jH rfl (jI [] Tryz.call40 rfl (Y_specDiskNew l_5a l_5c l_5 (by omega)) rfl (fun w hw => hw.see (i := 1) rfl)) ?_
  rintro _ _ ⟨_, ⟨d_8, hd_9, rfl, rfl⟩, rfl⟩
  refine jH rfl (jo (z := .agg #[.slice none 0 0, str [], iv 0]) (cs := [.slice none 0 0, str [], iv 0]) ko rfl) ?_
  rintro _ _ ⟨b_10, rfl, rfl⟩
  refine jH rfl (ja 0 (vs := [.slice d_8.a d_8.l.length d_8.c, str d_8.jt, iv d_8.js]) (cs' := [.slice d_8.a d_8.l.length d_8.c, str d_8.jt, iv d_8.js]) rfl rfl rfl rfl kd rfl rfl (lb rfl) rfl) ?_
  rintro _ _ rfl
  refine jE <| jB <| jC <| jF <| jA (jD (v := .pointer (some ⟨qb, 0, none⟩)) rfl) ?_
  refine jH rfl (jI [2] Tryz.call155 rfl (D_jour22 qb qa qc ql qp_2 qs_3 (by omega) (by omega)) rfl (fun w hw => ⟨hw.seeOut_ hs_qa (hpre.2), hw.apart hs_qa (hpre.2) (by simp)⟩)) ?_
  rintro _ _ ⟨_, ⟨qp_11, qs_12, J_14t, J_14j, fq_13, f_15, rfl, rfl⟩, rfl⟩
  refine jA (jQ fo31_1 rfl) ?_
  refine jH rfl (ja 1 (vs := [str J_14t, iv J_14j]) (cs' := [.slice d_8.a d_8.l.length d_8.c, str J_14t, iv J_14j]) rfl rfl rfl rfl kl rfl rfl (lb rfl) rfl) ?_
  rintro _ _ rfl
  refine jE <| jB <| jC <| jC ?_
  have hDr : Drawn2 (⟨d_8.a, d_8.c, d_8.l, J_14t, J_14j⟩ : DX) := (drawn_new hd_9 (okC'.mono f_6 (by omega))).of rfl (by show J_14t.length ≤ _; omega)
  refine jF <| jA (jD (v := .pointer (some ⟨qb, 0, none⟩)) rfl) ?_
  refine jH rfl (jI [0] Tryz.call73 rfl (D_below qb qa qc ql qp_11 qs_12 (by omega) (by omega) 5 (by omega)) rfl (fun w hw => ⟨hw.seeOut_ hs_qa (hpre.2), hw.apart hs_qa (hpre.2) (by simp)⟩)) ?_
  rintro _ _ ⟨_, ⟨qp_17, qs_18, n_20, fq_19, f_21, rfl, rfl⟩, rfl⟩
  refine jE <| jB <| jf <| jC <| jF <| jA (kO rfl rfl) <| jA (jG (v := .bool (decide (((n_20 : Nat) : Int) = 0))) rfl) <| jE <| jB ?_
  by_cases h_23 : ((n_20 : Nat) : Int) = 0
  · refine jW (cB (dT h_23)) <| jF <| jK (jO 1 (vs := [.slice d_8.a d_8.l.length d_8.c, str J_14t, iv J_14j]) rfl rfl ke kd rfl rfl) ?_
    refine jH rfl (jI [] Tryz.call20 rfl (Y_sFoldB (⟨d_8.a, d_8.c, d_8.l, J_14t, J_14j⟩ : DX) hDr.z hDr.l) rfl (fun w hw => hw.seeRows 2 rfl)) ?_
    rintro _ _ ⟨_, ⟨y_24, hy_25, rfl, rfl⟩, rfl⟩
    refine jA (jD (v := .tuple #[.agg #[.slice y_24.a y_24.l.length y_24.c, str y_24.jt, iv y_24.js], .bool (((⟨d_8.a, d_8.c, d_8.l, J_14t, J_14j⟩ : DX).dat.foldB).2)]) rfl) <| jA (je (v := .agg #[.slice y_24.a y_24.l.length y_24.c, str y_24.jt, iv y_24.js]) rfl rfl) <| jA (je (v := .bool (((⟨d_8.a, d_8.c, d_8.l, J_14t, J_14j⟩ : DX).dat.foldB).2)) rfl rfl) ?_
    refine jH rfl (ja 2 (vs := [.slice y_24.a y_24.l.length y_24.c, str y_24.jt, iv y_24.js]) (cs' := [.slice y_24.a y_24.l.length y_24.c, str y_24.jt, iv y_24.js]) rfl rfl rfl rfl kd rfl rfl (lb rfl) rfl) ?_
    rintro _ _ rfl
    refine jE <| jm <| jB <| jC <| jF <| jK (jO 2 (vs := [.slice y_24.a y_24.l.length y_24.c, str y_24.jt, iv y_24.js]) rfl rfl ke kd rfl rfl) ?_
    refine jH rfl (ja 5 (vs := [.slice y_24.a y_24.l.length y_24.c, str y_24.jt, iv y_24.js]) (cs' := [.slice y_24.a y_24.l.length y_24.c, str y_24.jt, iv y_24.js]) rfl rfl rfl rfl kd rfl rfl (lb rfl) rfl) ?_
    rintro _ _ rfl
    refine jE <| jB <| jN <| kM (pick_perm [1, 0] (A := [cb qb qa qc ql qp_17 qs_18, Res.rows (rdsD y_24)]) (F := [bk b_10 31 [.slice y_24.a y_24.l.length y_24.c, str y_24.jt, iv y_24.js], Res.rows (rdsD d_8), rC l_5a l_5c l_5, bk b_1 31 [.slice y_24.a y_24.l.length y_24.c, str y_24.jt, iv y_24.js]]) rfl).symm <| jV (.inl rfl) rfl (kA (jO 5 (vs := [.slice y_24.a y_24.l.length y_24.c, str y_24.jt, iv y_24.js]) rfl rfl ke kd rfl rfl) ⟨_, rfl⟩) (tS 2 _) ?_
    exact ⟨qp_17, qs_18, y_24, by omega, hDr.foldB hy_25, rfl, rfl⟩
  refine jR (cB (dF h_23)) <| jC <| jF <| jA (kO rfl rfl) <| jA (jG (v := .bool (decide (((n_20 : Nat) : Int) = 1))) rfl) <| jE <| jB ?_
  by_cases h_26 : ((n_20 : Nat) : Int) = 1
  · refine jW (cB (dT h_26)) <| jC <| jF <| jK (jO 1 (vs := [.slice d_8.a d_8.l.length d_8.c, str J_14t, iv J_14j]) rfl rfl ke kd rfl rfl) ?_
    refine jH rfl (jI [] Tryz.call20 rfl (Y_sFoldB (⟨d_8.a, d_8.c, d_8.l, J_14t, J_14j⟩ : DX) hDr.z hDr.l) rfl (fun w hw => hw.seeRows 2 rfl)) ?_
    rintro _ _ ⟨_, ⟨y_27, hy_28, rfl, rfl⟩, rfl⟩
    refine jA (jD (v := .tuple #[.agg #[.slice y_27.a y_27.l.length y_27.c, str y_27.jt, iv y_27.js], .bool (((⟨d_8.a, d_8.c, d_8.l, J_14t, J_14j⟩ : DX).dat.foldB).2)]) rfl) <| jA (je (v := .agg #[.slice y_27.a y_27.l.length y_27.c, str y_27.jt, iv y_27.js]) rfl rfl) <| jA (je (v := .bool (((⟨d_8.a, d_8.c, d_8.l, J_14t, J_14j⟩ : DX).dat.foldB).2)) rfl rfl) ?_
    refine jH rfl (ja 2 (vs := [.slice y_27.a y_27.l.length y_27.c, str y_27.jt, iv y_27.js]) (cs' := [.slice y_27.a y_27.l.length y_27.c, str y_27.jt, iv y_27.js]) rfl rfl rfl rfl kd rfl rfl (lb rfl) rfl) ?_
    rintro _ _ rfl
    refine jE <| jB ?_
    have hDr2 := hDr.foldB hy_28
    refine jF <| jK (jO 2 (vs := [.slice y_27.a y_27.l.length y_27.c, str y_27.jt, iv y_27.js]) rfl rfl ke kd rfl rfl) ?_
    refine jH rfl (jI [] Tryz.call38 rfl (Y_sFoldE y_27 hDr2.z hDr2.l) rfl (fun w hw => hw.seeRows 0 rfl)) ?_
    rintro _ _ ⟨_, ⟨y_29, hy_30, rfl, rfl⟩, rfl⟩
    refine jA (jD (v := .tuple #[.agg #[.slice y_29.a y_29.l.length y_29.c, str y_29.jt, iv y_29.js], .bool ((y_27.dat.foldE).2)]) rfl) <| jA (je (v := .agg #[.slice y_29.a y_29.l.length y_29.c, str y_29.jt, iv y_29.js]) rfl rfl) <| jA (je (v := .bool ((y_27.dat.foldE).2)) rfl rfl) ?_
    refine jH rfl (ja 3 (vs := [.slice y_29.a y_29.l.length y_29.c, str y_29.jt, iv y_29.js]) (cs' := [.slice y_29.a y_29.l.length y_29.c, str y_29.jt, iv y_29.js]) rfl rfl rfl rfl kd rfl rfl (lb rfl) rfl) ?_
    rintro _ _ rfl
    refine jE <| jm <| jB <| jC <| jF <| jK (jO 3 (vs := [.slice y_29.a y_29.l.length y_29.c, str y_29.jt, iv y_29.js]) rfl rfl ke kd rfl rfl) ?_
    refine jH rfl (ja 6 (vs := [.slice y_29.a y_29.l.length y_29.c, str y_29.jt, iv y_29.js]) (cs' := [.slice y_29.a y_29.l.length y_29.c, str y_29.jt, iv y_29.js]) rfl rfl rfl rfl kd rfl rfl (lb rfl) rfl) ?_
    rintro _ _ rfl
    refine jE <| jB <| jN <| kM (pick_perm [2, 0] (A := [cb qb qa qc ql qp_17 qs_18, Res.rows (rdsD y_29)]) (F := [Res.rows (rdsD y_27), bk b_10 31 [.slice y_29.a y_29.l.length y_29.c, str y_29.jt, iv y_29.js], Res.rows (rdsD d_8), rC l_5a l_5c l_5, bk b_1 31 [.slice y_29.a y_29.l.length y_29.c, str y_29.jt, iv y_29.js]]) rfl).symm <| jV (.inl rfl) rfl (kA (jO 6 (vs := [.slice y_29.a y_29.l.length y_29.c, str y_29.jt, iv y_29.js]) rfl rfl ke kd rfl rfl) ⟨_, rfl⟩) (tS 2 _) ?_
    exact ⟨qp_17, qs_18, y_29, by omega, hDr2.foldE hy_30, rfl, rfl⟩
  refine jR (cB (dF h_26)) <| jT <| jm <| jB <| jC <| jF <| jK (jO 1 (vs := [.slice d_8.a d_8.l.length d_8.c, str J_14t, iv J_14j]) rfl rfl ke kd rfl rfl) ?_
  refine jH rfl (ja 4 (vs := [.slice d_8.a d_8.l.length d_8.c, str J_14t, iv J_14j]) (cs' := [.slice d_8.a d_8.l.length d_8.c, str J_14t, iv J_14j]) rfl rfl rfl rfl kd rfl rfl (lb rfl) rfl) ?_
  rintro _ _ rfl
  refine jE <| jB <| jN <| kM (pick_perm [0, 1] (A := [cb qb qa qc ql qp_17 qs_18, Res.rows (rdsD d_8)]) (F := [bk b_10 31 [.slice d_8.a d_8.l.length d_8.c, str J_14t, iv J_14j], rC l_5a l_5c l_5, bk b_1 31 [.slice d_8.a d_8.l.length d_8.c, str J_14t, iv J_14j]]) rfl).symm <| jV (.inl rfl) rfl (kA (jO 4 (vs := [.slice d_8.a d_8.l.length d_8.c, str J_14t, iv J_14j]) rfl rfl ke kd rfl rfl) ⟨_, rfl⟩) (tS 2 _) ?_
  exact ⟨qp_17, qs_18, (⟨d_8.a, d_8.c, d_8.l, J_14t, J_14j⟩ : DX), by omega, hDr, rfl, rfl⟩

set_option maxRecDepth 4000 in
set_option maxHeartbeats 1000000 in
theorem D_anyDisk (qb : Nat) (qa : Option Addr) (qc : Nat) (ql : Str) (qp : Nat) (qs : Int) (hql : ql.length ≤ 1048576) (hqp : qp ≤ ql.length) :
    Ct Tryz.prog 88 [.pointer (some ⟨qb, 0, none⟩)] [cb qb qa qc ql qp qs] (fun w => seesC w qa qc ql [cb qb qa qc ql qp qs]) (fun v A' => ∃ qp' qs' y, qp' ≤ ql.length ∧ Drawn y ∧ v = .agg #[.slice y.a y.l.length y.c, str y.jt, .int .i64 y.js] ∧ A' = [cb qb qa qc ql qp' qs', .rows (rdsD y)]) := by
  refine Ct.intro Tryz.func88 rfl Tryz.ntmps88 (lb rfl) fun w0 hpre => ?_
  have hs_qa : Sees w0 _ _ _ _ := hpre.1
  refine jC <| jF ?_
  refine jH rfl (jo (z := .agg #[.slice none 0 0, str [], iv 0]) (cs := [.slice none 0 0, str [], iv 0]) ko rfl) ?_
  rintro _ _ ⟨b_1, rfl, rfl⟩
  refine jE <| jB <| jC <| jF <| jA (jD (v := .pointer (some ⟨qb, 0, none⟩)) rfl) ?_
  refine jH rfl (jI [1] Tryz.call130 rfl (D_disk23 qb qa qc ql qp qs (by omega) (by omega)) rfl (fun w hw => ⟨hw.seeOut_ hs_qa (hpre.2), hw.apart hs_qa (hpre.2) (by simp)⟩)) ?_
  rintro _ _ ⟨_, ⟨qp_2, qs_3, y_5, fq_4, hd_6, rfl, rfl⟩, rfl⟩
  refine jH rfl (jo (z := .agg #[.slice none 0 0, str [], iv 0]) (cs := [.slice none 0 0, str [], iv 0]) ko rfl) ?_
  rintro _ _ ⟨b_7, rfl, rfl⟩
  refine jH rfl (ja 0 (vs := [.slice y_5.a y_5.l.length y_5.c, str y_5.jt, iv y_5.js]) (cs' := [.slice y_5.a y_5.l.length y_5.c, str y_5.jt, iv y_5.js]) rfl rfl rfl rfl kd rfl rfl (lb rfl) rfl) ?_
  rintro _ _ rfl
  refine jE <| jB <| jC <| jC <| jF <| jA (jD (v := .pointer (some ⟨qb, 0, none⟩)) rfl) ?_
  refine jH rfl (jI [1] Tryz.call73 rfl (D_below qb qa qc ql qp_2 qs_3 (by omega) (by omega) 14 (by omega)) rfl (fun w hw => ⟨hw.seeOut_ hs_qa (hpre.2), hw.apart hs_qa (hpre.2) (by simp)⟩)) ?_
  rintro _ _ ⟨_, ⟨qp_8, qs_9, n_11, fq_10, f_12, rfl, rfl⟩, rfl⟩
  refine jE <| jB <| jf <| jC <| jF <| jA (kO rfl rfl) <| jA (jG (v := .bool (decide (((n_11 : Nat) : Int) = 0))) rfl) <| jE <| jB ?_
  by_cases h_14 : ((n_11 : Nat) : Int) = 0
  · refine jW (cB (dT h_14)) ?_
    have hy2 := hd_6.n
    refine kT (L' := [Res.row (.slice y_5.a y_5.l.length y_5.c) 60 3 y_5.l.length (y_5.l.flatMap encO), Res.rows (y_5.l.flatMap rdsO), cb qb qa qc ql qp_8 qs_9, bk b_7 31 [.slice y_5.a y_5.l.length y_5.c, str y_5.jt, iv y_5.js], bk b_1 31 [.slice none 0 0, str [], iv 0]]) (fun w hw => hw.headR (r := ⟨.slice y_5.a y_5.l.length y_5.c, 60, 3, y_5.l.length, y_5.l.flatMap encO⟩) (A := y_5.l.flatMap rdsO) 2 rfl) <| jF <| jA (jQ fo31_0 rfl) <| jK (jZ 3 (v := .slice y_5.a y_5.l.length y_5.c) rfl rfl ks rfl) ?_
    refine kN fun hst => ?_
    obtain ⟨hr_15, hr_15b, -⟩ := row_some 0 rfl (by omega) hst
    refine jA (jk (i := 0) km kj hr_15 hr_15b rfl rfl (by omega)) <| jA (kL fo60_2 hr_15 rfl) ?_
    refine jH rfl (JO.storeR 0 (vs := [.bool false]) (cs' := (y_5.l.set 0 (⟨⟨(y_5.l.getD 0 o0).x.a0, ((y_5.l.getD 0 o0).x.c0)⟩, ⟨(y_5.l.getD 0 o0).t.seq, (y_5.l.getD 0 o0).t.cells, false⟩⟩ : OX)).flatMap encO) rfl rfl rfl rfl Tryz.sizeOf4 rfl rfl (by decide) (by rw [flat_length encO_len]; omega) (flat_set1 encO_len o0 (f := 2) (y := (⟨⟨(y_5.l.getD 0 o0).x.a0, ((y_5.l.getD 0 o0).x.c0)⟩, ⟨(y_5.l.getD 0 o0).t.seq, (y_5.l.getD 0 o0).t.cells, false⟩⟩ : OX)) (by omega) (by decide) rfl)) ?_
    rintro _ _ rfl
    refine jE <| jm <| jB <| jC <| jF <| jK (jO 3 (vs := [.slice y_5.a y_5.l.length y_5.c, str y_5.jt, iv y_5.js]) rfl rfl ke kd rfl rfl) ?_
    refine jH rfl (ja 4 (vs := [.slice y_5.a y_5.l.length y_5.c, str y_5.jt, iv y_5.js]) (cs' := [.slice y_5.a y_5.l.length y_5.c, str y_5.jt, iv y_5.js]) rfl rfl rfl rfl kd rfl rfl (lb rfl) rfl) ?_
    rintro _ _ rfl
    refine jE <| jB <| jN ?_
    have hi1 : 0 < y_5.l.length := by omega
    refine ju (L' := [Res.rows ((y_5.l.set 0 (⟨⟨(y_5.l.getD 0 o0).x.a0, ((y_5.l.getD 0 o0).x.c0)⟩, ⟨(y_5.l.getD 0 o0).t.seq, (y_5.l.getD 0 o0).t.cells, false⟩⟩ : OX)).flatMap rdsO), Res.row (.slice y_5.a y_5.l.length y_5.c) 60 3 y_5.l.length ((y_5.l.set 0 (⟨⟨(y_5.l.getD 0 o0).x.a0, ((y_5.l.getD 0 o0).x.c0)⟩, ⟨(y_5.l.getD 0 o0).t.seq, (y_5.l.getD 0 o0).t.cells, false⟩⟩ : OX)).flatMap encO), cb qb qa qc ql qp_8 qs_9, bk b_7 31 [.slice y_5.a y_5.l.length y_5.c, str y_5.jt, iv y_5.js], bk b_1 31 [.slice y_5.a y_5.l.length y_5.c, str y_5.jt, iv y_5.js]]) (fun w hw => hw.rowsEq 1 (A := y_5.l.flatMap rdsO) (B := (y_5.l.set 0 (⟨⟨(y_5.l.getD 0 o0).x.a0, ((y_5.l.getD 0 o0).x.c0)⟩, ⟨(y_5.l.getD 0 o0).t.seq, (y_5.l.getD 0 o0).t.cells, false⟩⟩ : OX)).flatMap rdsO) (F := [Res.row (.slice y_5.a y_5.l.length y_5.c) 60 3 y_5.l.length ((y_5.l.set 0 (⟨⟨(y_5.l.getD 0 o0).x.a0, ((y_5.l.getD 0 o0).x.c0)⟩, ⟨(y_5.l.getD 0 o0).t.seq, (y_5.l.getD 0 o0).t.cells, false⟩⟩ : OX)).flatMap encO), cb qb qa qc ql qp_8 qs_9, bk b_7 31 [.slice y_5.a y_5.l.length y_5.c, str y_5.jt, iv y_5.js], bk b_1 31 [.slice y_5.a y_5.l.length y_5.c, str y_5.jt, iv y_5.js]]) rfl (flatMap_sameO (l := y_5.l) (i := 0) (x := (⟨⟨(y_5.l.getD 0 o0).x.a0, ((y_5.l.getD 0 o0).x.c0)⟩, ⟨(y_5.l.getD 0 o0).t.seq, (y_5.l.getD 0 o0).t.cells, false⟩⟩ : OX)) hi1 rfl).symm) ?_
    have hzo : ((y_5.l.getD 0 o0).t).okz := hd_6.z.k1 _ (List.mem_map_of_mem (getD_mem (d := o0) hi1))
    refine ju (L' := [Res.rows ((y_5.l.set 0 (⟨⟨(y_5.l.getD 0 o0).x.a0, ((y_5.l.getD 0 o0).x.c0)⟩, ⟨(y_5.l.getD 0 o0).t.seq, (y_5.l.getD 0 o0).t.cells, false⟩⟩ : OX)).flatMap rdsO), Res.row (.slice y_5.a ((y_5.l.set 0 (⟨⟨(y_5.l.getD 0 o0).x.a0, ((y_5.l.getD 0 o0).x.c0)⟩, ⟨(y_5.l.getD 0 o0).t.seq, (y_5.l.getD 0 o0).t.cells, false⟩⟩ : OX)).length) y_5.c) 60 3 ((y_5.l.set 0 (⟨⟨(y_5.l.getD 0 o0).x.a0, ((y_5.l.getD 0 o0).x.c0)⟩, ⟨(y_5.l.getD 0 o0).t.seq, (y_5.l.getD 0 o0).t.cells, false⟩⟩ : OX)).length) ((y_5.l.set 0 (⟨⟨(y_5.l.getD 0 o0).x.a0, ((y_5.l.getD 0 o0).x.c0)⟩, ⟨(y_5.l.getD 0 o0).t.seq, (y_5.l.getD 0 o0).t.cells, false⟩⟩ : OX)).flatMap encO), cb qb qa qc ql qp_8 qs_9, bk b_7 31 [.slice y_5.a y_5.l.length y_5.c, str y_5.jt, iv y_5.js], bk b_1 31 [.slice y_5.a y_5.l.length y_5.c, str y_5.jt, iv y_5.js]]) (fun w hw => hw.eqL (by simp only [List.length_set])) <| ju (L' := [Res.rows (rdsOS y_5.a y_5.c (y_5.l.set 0 (⟨⟨(y_5.l.getD 0 o0).x.a0, ((y_5.l.getD 0 o0).x.c0)⟩, ⟨(y_5.l.getD 0 o0).t.seq, (y_5.l.getD 0 o0).t.cells, false⟩⟩ : OX))), cb qb qa qc ql qp_8 qs_9, bk b_7 31 [.slice y_5.a y_5.l.length y_5.c, str y_5.jt, iv y_5.js], bk b_1 31 [.slice y_5.a y_5.l.length y_5.c, str y_5.jt, iv y_5.js]]) (fun w hw => hw.consR (r := ⟨.slice y_5.a ((y_5.l.set 0 (⟨⟨(y_5.l.getD 0 o0).x.a0, ((y_5.l.getD 0 o0).x.c0)⟩, ⟨(y_5.l.getD 0 o0).t.seq, (y_5.l.getD 0 o0).t.cells, false⟩⟩ : OX)).length) y_5.c, 60, 3, (y_5.l.set 0 (⟨⟨(y_5.l.getD 0 o0).x.a0, ((y_5.l.getD 0 o0).x.c0)⟩, ⟨(y_5.l.getD 0 o0).t.seq, (y_5.l.getD 0 o0).t.cells, false⟩⟩ : OX)).length, (y_5.l.set 0 (⟨⟨(y_5.l.getD 0 o0).x.a0, ((y_5.l.getD 0 o0).x.c0)⟩, ⟨(y_5.l.getD 0 o0).t.seq, (y_5.l.getD 0 o0).t.cells, false⟩⟩ : OX)).flatMap encO⟩) (A := (y_5.l.set 0 (⟨⟨(y_5.l.getD 0 o0).x.a0, ((y_5.l.getD 0 o0).x.c0)⟩, ⟨(y_5.l.getD 0 o0).t.seq, (y_5.l.getD 0 o0).t.cells, false⟩⟩ : OX)).flatMap rdsO) [1, 0] rfl) <| kM (pick_perm [1, 0] (A := [cb qb qa qc ql qp_8 qs_9, Res.rows (rdsOS y_5.a y_5.c (y_5.l.set 0 (⟨⟨(y_5.l.getD 0 o0).x.a0, ((y_5.l.getD 0 o0).x.c0)⟩, ⟨(y_5.l.getD 0 o0).t.seq, (y_5.l.getD 0 o0).t.cells, false⟩⟩ : OX)))]) (F := [bk b_7 31 [.slice y_5.a y_5.l.length y_5.c, str y_5.jt, iv y_5.js], bk b_1 31 [.slice y_5.a y_5.l.length y_5.c, str y_5.jt, iv y_5.js]]) rfl).symm <| jV (.inl rfl) rfl (kA (jO 3 (vs := [.slice y_5.a y_5.l.length y_5.c, str y_5.jt, iv y_5.js]) rfl rfl ke kd rfl rfl) ⟨_, rfl⟩) (tS 2 _) ?_
    exact ⟨qp_8, qs_9, (⟨y_5.a, y_5.c, y_5.l.set 0 (⟨⟨(y_5.l.getD 0 o0).x.a0, ((y_5.l.getD 0 o0).x.c0)⟩, ⟨(y_5.l.getD 0 o0).t.seq, (y_5.l.getD 0 o0).t.cells, false⟩⟩ : OX), y_5.jt, y_5.js⟩ : DX), by omega, hd_6.toDrawn.set ⟨hzo.k0⟩ ⟨(hd_6.l.l1 _ (List.mem_map_of_mem (getD_mem (d := o0) hi1))).l0⟩, by simp only [List.length_set], rfl⟩
  refine jR (cB (dF h_14)) <| jC <| jF <| jA (kO rfl rfl) <| jA (jG (v := .bool (decide (((n_11 : Nat) : Int) = 1))) rfl) <| jE <| jB ?_
  by_cases h_16 : ((n_11 : Nat) : Int) = 1
  · refine jW (cB (dT h_16)) ?_
    have hy2 := hd_6.n
    refine kT (L' := [Res.row (.slice y_5.a y_5.l.length y_5.c) 60 3 y_5.l.length (y_5.l.flatMap encO), Res.rows (y_5.l.flatMap rdsO), cb qb qa qc ql qp_8 qs_9, bk b_7 31 [.slice y_5.a y_5.l.length y_5.c, str y_5.jt, iv y_5.js], bk b_1 31 [.slice none 0 0, str [], iv 0]]) (fun w hw => hw.headR (r := ⟨.slice y_5.a y_5.l.length y_5.c, 60, 3, y_5.l.length, y_5.l.flatMap encO⟩) (A := y_5.l.flatMap rdsO) 2 rfl) <| kJ [bk b_7 31 [.slice y_5.a y_5.l.length y_5.c, str y_5.jt, iv y_5.js]] 8 mixed (by simp) <| jL 0 rfl (jQ fo31_0 rfl) <| jw 1 rfl (jZ 0 (v := .slice y_5.a y_5.l.length y_5.c) rfl rfl ks rfl) <| jL 2 rfl (jD (v := .pointer (some ⟨qb, 0, none⟩)) rfl) <| jL 5 rfl (jD (v := .pointer (some ⟨qb, 0, none⟩)) rfl) <| jj (i := 3) ?_
    refine jz rfl rfl (kH (ps := [(0, iv 1), (1, iv 99999), (2, iv 100000), (3, iv (-1))]) (cur := #[iv 1, iv 99999, iv 100000, iv (-1)]) Tryz.underlying41 gA Tryz.zeroValue3 rfl (by kernel_rfl) (by decide) (by decide)) ?_
    rintro _ _ ⟨a_19, rfl, rfl⟩
    refine ⟨(by simp), ?_⟩
    refine jj (i := 4) ?_
    refine jz rfl rfl (jI [3, 0] Tryz.call98 rfl (D_pickInt qb qa qc ql qp_8 qs_9 a_19 4 ([1, 99999, 100000, -1] : List Int) (by omega) (by omega) (by simp) (by simp)) rfl (fun w hw => ⟨hw.seeOut_ hs_qa (hpre.2), hw.apart hs_qa (hpre.2) (by simp)⟩)) ?_
    rintro _ _ ⟨_, ⟨qp_26, qs_27, n_29, fq_28, f_30, rfl, rfl⟩, rfl⟩
    have hbn_29 : -9223372036854775808 ≤ n_29 ∧ n_29 ≤ 9223372036854775807 := by have hx_ := f_30; simp only [List.mem_cons, List.not_mem_nil, or_false] at hx_; omega
    refine ⟨(by simp), ?_⟩
    refine jj (i := 6) ?_
    refine jz rfl rfl (jI [0] Tryz.call100 rfl (D_any02 qb qa qc ql qp_26 qs_27 (by omega) (by omega)) rfl (fun w hw => ⟨hw.seeOut_ hs_qa (hpre.2), hw.apart hs_qa (hpre.2) (by simp)⟩)) ?_
    rintro _ _ ⟨_, ⟨qp_38, qs_39, l_41a, l_41c, l_41, fq_40, f_42, rfl, rfl⟩, rfl⟩
    have hO1_ := f_42.1
    refine ⟨(by simp), ?_⟩
    refine jL 7 rfl (kW (ps := [(0, iv n_29), (1, .slice l_41a l_41.length l_41c), (2, .bool true)]) (cs := [iv n_29, .slice l_41a l_41.length l_41c, .bool true]) rfl (by kernel_rfl)) ?_
    refine JA.facts fun hst => ?_
    obtain ⟨hr_44, hr_44b, -⟩ := row_some 2 rfl (by omega) hst
    refine jL 8 rfl (jk (i := 1) km kj hr_44 hr_44b rfl rfl (by omega)) <| jj (i := 9) ?_
    refine JX.ls rfl (JO.storeR 2 (vs := [iv n_29, .slice l_41a l_41.length l_41c, .bool true]) (cs' := (y_5.l.set 1 (⟨⟨l_41a, l_41c⟩, ⟨n_29, l_41, true⟩⟩ : OX)).flatMap encO) rfl rfl rfl rfl kj rfl rfl (by decide) (by rw [flat_length encO_len]; omega) (flat_set encO_len y_5.l 1 (⟨⟨l_41a, l_41c⟩, ⟨n_29, l_41, true⟩⟩ : OX) (by omega))) ?_
    rintro _ _ rfl
    refine jm <| jB <| jC <| jF <| jK (jO 4 (vs := [.slice y_5.a y_5.l.length y_5.c, str y_5.jt, iv y_5.js]) rfl rfl ke kd rfl rfl) ?_
    refine jH rfl (ja 5 (vs := [.slice y_5.a y_5.l.length y_5.c, str y_5.jt, iv y_5.js]) (cs' := [.slice y_5.a y_5.l.length y_5.c, str y_5.jt, iv y_5.js]) rfl rfl rfl rfl kd rfl rfl (lb rfl) rfl) ?_
    rintro _ _ rfl
    refine jE <| jB <| jN ?_
    have hi1 : 1 < y_5.l.length := by omega
    refine ju (L' := [Res.rows ((y_5.l.take 1).flatMap rdsO), Res.rows (rdsO (y_5.l.getD 1 o0)), Res.rows ((y_5.l.drop (1 + 1)).flatMap rdsO), cb qb qa qc ql qp_38 qs_39, rC l_41a l_41c l_41, Res.row (.slice y_5.a y_5.l.length y_5.c) 60 3 y_5.l.length ((y_5.l.set 1 (⟨⟨l_41a, l_41c⟩, ⟨n_29, l_41, true⟩⟩ : OX)).flatMap encO), bk b_7 31 [.slice y_5.a y_5.l.length y_5.c, str y_5.jt, iv y_5.js], bk b_1 31 [.slice y_5.a y_5.l.length y_5.c, str y_5.jt, iv y_5.js]]) (fun w hw => hw.splitR 3 rfl (flatMap_at o0 hi1)) <| ju (L' := [Res.rows (rdsO (⟨⟨l_41a, l_41c⟩, ⟨n_29, l_41, true⟩⟩ : OX)), Res.rows ((y_5.l.take 1).flatMap rdsO), Res.rows (rdsO (y_5.l.getD 1 o0)), Res.rows ((y_5.l.drop (1 + 1)).flatMap rdsO), cb qb qa qc ql qp_38 qs_39, Res.row (.slice y_5.a y_5.l.length y_5.c) 60 3 y_5.l.length ((y_5.l.set 1 (⟨⟨l_41a, l_41c⟩, ⟨n_29, l_41, true⟩⟩ : OX)).flatMap encO), bk b_7 31 [.slice y_5.a y_5.l.length y_5.c, str y_5.jt, iv y_5.js], bk b_1 31 [.slice y_5.a y_5.l.length y_5.c, str y_5.jt, iv y_5.js]]) (fun w hw => hw.closeR (A := rdsO (⟨⟨l_41a, l_41c⟩, ⟨n_29, l_41, true⟩⟩ : OX)) [4] rfl) <| ju (L' := [Res.rows ((y_5.l.set 1 (⟨⟨l_41a, l_41c⟩, ⟨n_29, l_41, true⟩⟩ : OX)).flatMap rdsO), Res.rows (rdsO (y_5.l.getD 1 o0)), cb qb qa qc ql qp_38 qs_39, Res.row (.slice y_5.a y_5.l.length y_5.c) 60 3 y_5.l.length ((y_5.l.set 1 (⟨⟨l_41a, l_41c⟩, ⟨n_29, l_41, true⟩⟩ : OX)).flatMap encO), bk b_7 31 [.slice y_5.a y_5.l.length y_5.c, str y_5.jt, iv y_5.js], bk b_1 31 [.slice y_5.a y_5.l.length y_5.c, str y_5.jt, iv y_5.js]]) (fun w hw => hw.joinR [1, 0, 1] rfl (flatMap_setAt hi1)) <| ju (L' := [Res.rows ((y_5.l.set 1 (⟨⟨l_41a, l_41c⟩, ⟨n_29, l_41, true⟩⟩ : OX)).flatMap rdsO), Res.rows (rdsO (y_5.l.getD 1 o0)), cb qb qa qc ql qp_38 qs_39, Res.row (.slice y_5.a ((y_5.l.set 1 (⟨⟨l_41a, l_41c⟩, ⟨n_29, l_41, true⟩⟩ : OX)).length) y_5.c) 60 3 ((y_5.l.set 1 (⟨⟨l_41a, l_41c⟩, ⟨n_29, l_41, true⟩⟩ : OX)).length) ((y_5.l.set 1 (⟨⟨l_41a, l_41c⟩, ⟨n_29, l_41, true⟩⟩ : OX)).flatMap encO), bk b_7 31 [.slice y_5.a y_5.l.length y_5.c, str y_5.jt, iv y_5.js], bk b_1 31 [.slice y_5.a y_5.l.length y_5.c, str y_5.jt, iv y_5.js]]) (fun w hw => hw.eqL (by simp only [List.length_set])) <| ju (L' := [Res.rows (rdsOS y_5.a y_5.c (y_5.l.set 1 (⟨⟨l_41a, l_41c⟩, ⟨n_29, l_41, true⟩⟩ : OX))), Res.rows (rdsO (y_5.l.getD 1 o0)), cb qb qa qc ql qp_38 qs_39, bk b_7 31 [.slice y_5.a y_5.l.length y_5.c, str y_5.jt, iv y_5.js], bk b_1 31 [.slice y_5.a y_5.l.length y_5.c, str y_5.jt, iv y_5.js]]) (fun w hw => hw.consR (r := ⟨.slice y_5.a ((y_5.l.set 1 (⟨⟨l_41a, l_41c⟩, ⟨n_29, l_41, true⟩⟩ : OX)).length) y_5.c, 60, 3, (y_5.l.set 1 (⟨⟨l_41a, l_41c⟩, ⟨n_29, l_41, true⟩⟩ : OX)).length, (y_5.l.set 1 (⟨⟨l_41a, l_41c⟩, ⟨n_29, l_41, true⟩⟩ : OX)).flatMap encO⟩) (A := (y_5.l.set 1 (⟨⟨l_41a, l_41c⟩, ⟨n_29, l_41, true⟩⟩ : OX)).flatMap rdsO) [3, 0] rfl) <| kM (pick_perm [2, 0] (A := [cb qb qa qc ql qp_38 qs_39, Res.rows (rdsOS y_5.a y_5.c (y_5.l.set 1 (⟨⟨l_41a, l_41c⟩, ⟨n_29, l_41, true⟩⟩ : OX)))]) (F := [Res.rows (rdsO (y_5.l.getD 1 o0)), bk b_7 31 [.slice y_5.a y_5.l.length y_5.c, str y_5.jt, iv y_5.js], bk b_1 31 [.slice y_5.a y_5.l.length y_5.c, str y_5.jt, iv y_5.js]]) rfl).symm <| jV (.inl rfl) rfl (kA (jO 4 (vs := [.slice y_5.a y_5.l.length y_5.c, str y_5.jt, iv y_5.js]) rfl rfl ke kd rfl rfl) ⟨_, rfl⟩) (tS 2 _) ?_
    exact ⟨qp_38, qs_39, (⟨y_5.a, y_5.c, y_5.l.set 1 (⟨⟨l_41a, l_41c⟩, ⟨n_29, l_41, true⟩⟩ : OX), y_5.jt, y_5.js⟩ : DX), by omega, hd_6.toDrawn.set ⟨okC'.okC f_42 (by decide) (by decide)⟩ ⟨Nat.le_trans f_42.1 (by decide)⟩, by simp only [List.length_set], rfl⟩
  refine jR (cB (dF h_16)) <| jC <| jF <| jA (kO rfl rfl) <| jA (jG (v := .bool (decide (((n_11 : Nat) : Int) = 2))) rfl) <| jE <| jB ?_
  by_cases h_45 : ((n_11 : Nat) : Int) = 2
  · refine jW (cB (dT h_45)) <| jF <| jA (jD (v := .pointer (some ⟨qb, 0, none⟩)) rfl) ?_
    refine jH rfl (jI [0] Tryz.call131 rfl (D_jany22 qb qa qc ql qp_8 qs_9 (by omega) (by omega)) rfl (fun w hw => ⟨hw.seeOut_ hs_qa (hpre.2), hw.apart hs_qa (hpre.2) (by simp)⟩)) ?_
    rintro _ _ ⟨_, ⟨qp_46, qs_47, J_49t, J_49j, fq_48, f_50, rfl, rfl⟩, rfl⟩
    refine jA (jQ fo31_1 rfl) ?_
    refine jH rfl (ja 1 (vs := [str J_49t, iv J_49j]) (cs' := [.slice y_5.a y_5.l.length y_5.c, str J_49t, iv J_49j]) rfl rfl rfl rfl kl rfl rfl (lb rfl) rfl) ?_
    rintro _ _ rfl
    refine jE <| jm <| jB <| jC <| jF <| jK (jO 1 (vs := [.slice y_5.a y_5.l.length y_5.c, str J_49t, iv J_49j]) rfl rfl ke kd rfl rfl) ?_
    refine jH rfl (ja 3 (vs := [.slice y_5.a y_5.l.length y_5.c, str J_49t, iv J_49j]) (cs' := [.slice y_5.a y_5.l.length y_5.c, str J_49t, iv J_49j]) rfl rfl rfl rfl kd rfl rfl (lb rfl) rfl) ?_
    rintro _ _ rfl
    refine jE <| jB <| jN <| kM (pick_perm [0, 1] (A := [cb qb qa qc ql qp_46 qs_47, Res.rows (rdsD y_5)]) (F := [bk b_7 31 [.slice y_5.a y_5.l.length y_5.c, str J_49t, iv J_49j], bk b_1 31 [.slice y_5.a y_5.l.length y_5.c, str J_49t, iv J_49j]]) rfl).symm <| jV (.inl rfl) rfl (kA (jO 3 (vs := [.slice y_5.a y_5.l.length y_5.c, str J_49t, iv J_49j]) rfl rfl ke kd rfl rfl) ⟨_, rfl⟩) (tS 2 _) ?_
    exact ⟨qp_46, qs_47, (⟨y_5.a, y_5.c, y_5.l, J_49t, J_49j⟩ : DX), by omega, hd_6.toDrawn.of rfl (by show J_49t.length ≤ _; first | omega | exact hd_6.j), rfl, rfl⟩
  refine jR (cB (dF h_45)) <| jC <| jF <| jA (kO rfl rfl) <| jA (jG (v := .bool (decide (((n_11 : Nat) : Int) = 3))) rfl) <| jE <| jB ?_
  by_cases h_52 : ((n_11 : Nat) : Int) = 3
  · refine jW (cB (dT h_52)) ?_
    have hy2 := hd_6.n
    refine kT (L' := [Res.row (.slice y_5.a y_5.l.length y_5.c) 60 3 y_5.l.length (y_5.l.flatMap encO), Res.rows (y_5.l.flatMap rdsO), cb qb qa qc ql qp_8 qs_9, bk b_7 31 [.slice y_5.a y_5.l.length y_5.c, str y_5.jt, iv y_5.js], bk b_1 31 [.slice none 0 0, str [], iv 0]]) (fun w hw => hw.headR (r := ⟨.slice y_5.a y_5.l.length y_5.c, 60, 3, y_5.l.length, y_5.l.flatMap encO⟩) (A := y_5.l.flatMap rdsO) 2 rfl) <| jF <| jA (jQ fo31_0 rfl) <| jK (jZ 3 (v := .slice y_5.a y_5.l.length y_5.c) rfl rfl ks rfl) ?_
    refine kN fun hst => ?_
    obtain ⟨hf_53m, hf_53x, hf_53s, hf_53l⟩ := fits_of hst (i := 0) rfl
    refine jA (PO.sliceVh (j := 1) km kj hf_53s rfl rfl (by omega)) <| jA (jQ fo31_0 rfl) ?_
    refine jH rfl (ja 3 (vs := [.slice y_5.a 1 y_5.c]) (cs' := [.slice y_5.a 1 y_5.c, str y_5.jt, iv y_5.js]) rfl rfl rfl rfl Tryz.sizeOf28 rfl rfl (lb rfl) rfl) ?_
    rintro _ _ rfl
    refine jE <| jm <| jB <| jC <| jF <| jK (jO 3 (vs := [.slice y_5.a 1 y_5.c, str y_5.jt, iv y_5.js]) rfl rfl ke kd rfl rfl) ?_
    refine jH rfl (ja 4 (vs := [.slice y_5.a 1 y_5.c, str y_5.jt, iv y_5.js]) (cs' := [.slice y_5.a 1 y_5.c, str y_5.jt, iv y_5.js]) rfl rfl rfl rfl kd rfl rfl (lb rfl) rfl) ?_
    rintro _ _ rfl
    refine jE <| jB <| jN <| ju (L' := [Res.row (.slice y_5.a 1 y_5.c) 60 3 1 ((y_5.l.take 1).flatMap encO), Res.rows (y_5.l.flatMap rdsO), cb qb qa qc ql qp_8 qs_9, bk b_7 31 [.slice y_5.a 1 y_5.c, str y_5.jt, iv y_5.js], bk b_1 31 [.slice y_5.a 1 y_5.c, str y_5.jt, iv y_5.js]]) (fun w hw => hw.clip (i := 0) rfl 1 y_5.c (by omega) (by have := hf_53m; omega) (Nat.le_refl _) (flat_front encO_len _ _)) <| ju (L' := [Res.rows ((y_5.l.take 1).flatMap rdsO), Res.rows (rdsO (y_5.l.getD 1 o0)), Res.rows ((y_5.l.drop (1 + 1)).flatMap rdsO), Res.row (.slice y_5.a 1 y_5.c) 60 3 1 ((y_5.l.take 1).flatMap encO), cb qb qa qc ql qp_8 qs_9, bk b_7 31 [.slice y_5.a 1 y_5.c, str y_5.jt, iv y_5.js], bk b_1 31 [.slice y_5.a 1 y_5.c, str y_5.jt, iv y_5.js]]) (fun w hw => hw.splitR 1 rfl (flatMap_at o0 (by omega))) ?_
    have ht1 : (y_5.l.take 1).length = 1 := by rw [List.length_take]; omega
    refine ju (L' := [Res.rows ((y_5.l.take 1).flatMap rdsO), Res.rows (rdsO (y_5.l.getD 1 o0)), Res.rows ((y_5.l.drop (1 + 1)).flatMap rdsO), Res.row (.slice y_5.a ((y_5.l.take 1).length) y_5.c) 60 3 ((y_5.l.take 1).length) ((y_5.l.take 1).flatMap encO), cb qb qa qc ql qp_8 qs_9, bk b_7 31 [.slice y_5.a 1 y_5.c, str y_5.jt, iv y_5.js], bk b_1 31 [.slice y_5.a 1 y_5.c, str y_5.jt, iv y_5.js]]) (fun w hw => hw.eqL (by rw [ht1])) <| ju (L' := [Res.rows (rdsOS y_5.a y_5.c (y_5.l.take 1)), Res.rows (rdsO (y_5.l.getD 1 o0)), Res.rows ((y_5.l.drop (1 + 1)).flatMap rdsO), cb qb qa qc ql qp_8 qs_9, bk b_7 31 [.slice y_5.a 1 y_5.c, str y_5.jt, iv y_5.js], bk b_1 31 [.slice y_5.a 1 y_5.c, str y_5.jt, iv y_5.js]]) (fun w hw => hw.consR (r := ⟨.slice y_5.a ((y_5.l.take 1).length) y_5.c, 60, 3, (y_5.l.take 1).length, (y_5.l.take 1).flatMap encO⟩) (A := (y_5.l.take 1).flatMap rdsO) [3, 0] rfl) <| kM (pick_perm [3, 0] (A := [cb qb qa qc ql qp_8 qs_9, Res.rows (rdsOS y_5.a y_5.c (y_5.l.take 1))]) (F := [Res.rows (rdsO (y_5.l.getD 1 o0)), Res.rows ((y_5.l.drop (1 + 1)).flatMap rdsO), bk b_7 31 [.slice y_5.a 1 y_5.c, str y_5.jt, iv y_5.js], bk b_1 31 [.slice y_5.a 1 y_5.c, str y_5.jt, iv y_5.js]]) rfl).symm <| jV (.inl rfl) rfl (kA (jO 5 (vs := [.slice y_5.a 1 y_5.c, str y_5.jt, iv y_5.js]) rfl rfl ke kd rfl rfl) ⟨_, rfl⟩) (tS 2 _) ?_
    exact ⟨qp_8, qs_9, (⟨y_5.a, y_5.c, y_5.l.take 1, y_5.jt, y_5.js⟩ : DX), by omega, hd_6.toDrawn.take, by simp only [ht1], rfl⟩
  refine jR (cB (dF h_52)) <| jT <| jm <| jB <| jC <| jF <| jK (jO 1 (vs := [.slice y_5.a y_5.l.length y_5.c, str y_5.jt, iv y_5.js]) rfl rfl ke kd rfl rfl) ?_
  refine jH rfl (ja 3 (vs := [.slice y_5.a y_5.l.length y_5.c, str y_5.jt, iv y_5.js]) (cs' := [.slice y_5.a y_5.l.length y_5.c, str y_5.jt, iv y_5.js]) rfl rfl rfl rfl kd rfl rfl (lb rfl) rfl) ?_
  rintro _ _ rfl
  refine jE <| jB <| jN <| kM (pick_perm [0, 1] (A := [cb qb qa qc ql qp_8 qs_9, Res.rows (rdsD y_5)]) (F := [bk b_7 31 [.slice y_5.a y_5.l.length y_5.c, str y_5.jt, iv y_5.js], bk b_1 31 [.slice y_5.a y_5.l.length y_5.c, str y_5.jt, iv y_5.js]]) rfl).symm <| jV (.inl rfl) rfl (kA (jO 3 (vs := [.slice y_5.a y_5.l.length y_5.c, str y_5.jt, iv y_5.js]) rfl rfl ke kd rfl rfl) ⟨_, rfl⟩) (tS 2 _) ?_
  exact ⟨qp_8, qs_9, y_5, by omega, hd_6.toDrawn.of rfl (by show y_5.jt.length ≤ _; first | omega | exact hd_6.j), rfl, rfl⟩

end Go.Proofs.YtjncpgcccgdeiaaGreatDoor

set_option linter.unusedSimpArgs false
set_option linter.unusedVariables false
set_option linter.unnecessarySimpa false
namespace Go.Proofs.YtjncpgcccgdeiaaGreatDoor
open Go Go.RowKit
section
variable {P : Program} {ops : Array Oper} {Q : Exit → Act → World → Prop} {n : Nat} {w0 : World} {D : List Nat} {L M : List Res} {e : Env} {z fuel : Nat} {listed : Array Bool}
end
attribute [local irreducible] JL JC JQ JO LO PO JA JX Ct

theorem N_big (pa : Option Addr) (pc : Nat) (p : Str) :
    Ct Tryz.prog 24 [.slice pa p.length pc] [] (fun _ => True) (fun v A' => v = .bool (decide (1048576 < ((p.length : Nat) : Int))) ∧ A' = []) := by
  refine Ct.intro Tryz.func24 rfl Tryz.ntmps24 (lb rfl) fun w0 hpre => ?_
  refine jC <| jF <| jA (jG (v := .bool false) rfl) <| jE <| jB <| jC <| jF <| jA (jD (v := .slice pa p.length pc) rfl) <| jA (jr kr rfl) <| jA (kR rfl rfl) ?_
  refine jA (jG (v := .bool (decide (1048576 < ((p.length : Nat) : Int)))) rfl) <| jE <| jB <| jN <| jV (.inl rfl) rfl (jJ (v := .bool (decide (1048576 < ((p.length : Nat) : Int)))) rfl) (List.nil_sublist _) ?_
  exact ⟨rfl, rfl⟩

end Go.Proofs.YtjncpgcccgdeiaaGreatDoor

set_option linter.unusedSimpArgs false
set_option linter.unusedVariables false
set_option linter.unnecessarySimpa false
namespace Go.Proofs.YtjncpgcccgdeiaaGreatDoor
open Go Go.RowKit
section
variable {seq : Int} {l : List Cell}
end
/- journals of one and of two records -/
section
variable {l1 l2 : List Cell} {a b : Str}
end
theorem recov_len0 (d : DD) : d.recov.1.length ≤ 20900 := by
  cases h : diskOk d with
  | true => exact recov_len h
  | false => rw [recov_not h]; exact Nat.zero_le _
end Go.Proofs.YtjncpgcccgdeiaaGreatDoor

set_option linter.unusedSimpArgs false
set_option linter.unusedVariables false
set_option linter.unnecessarySimpa false
namespace Go.Proofs.YtjncpgcccgdeiaaGreatDoor
open Go Go.RowKit
attribute [local irreducible] JL JC JQ JO LO PO JA JX Ct

set_option maxRecDepth 4000 in
set_option maxHeartbeats 1000000 in
theorem D_dRecovered (pa : Option Addr) (pc : Nat) (p : Str) (hp : p.length ≤ 1048576) :
    Ct Tryz.prog 45 [.slice pa p.length pc] [] (fun w => Sees w (.slice pa p.length pc) 1 p.length (p.map encB)) (fun v A' => ∃ y, Drawn y ∧ v = .agg #[.slice y.a y.l.length y.c, str y.jt, .int .i64 y.js] ∧ A' = [.rows (rdsD y)]) := by
  refine Ct.intro Tryz.func45 rfl Tryz.ntmps45 (lb rfl) fun w0 hpre => ?_
  have hs_pa : Sees w0 _ _ _ _ := hpre
  refine jC <| jF ?_
  refine jH rfl (jo (z := .agg #[.slice none 0 0, str [], iv 0]) (cs := [.slice none 0 0, str [], iv 0]) ko rfl) ?_
  rintro _ _ ⟨b_1, rfl, rfl⟩
  refine jE <| jB <| jC <| jF <| jA (jD (v := .slice pa p.length pc) rfl) ?_
  refine jH rfl (jI [] Tryz.call72 rfl (D_new pa pc p (by omega)) rfl (fun w hw => hw.seeOut_ hs_pa nM)) ?_
  rintro _ _ ⟨_, ⟨c_2, qs_3, -, rfl, rfl⟩, rfl⟩
  refine jH rfl (jI [0] Tryz.call88 rfl (D_anyDisk c_2 pa pc p 0 qs_3 (by omega) (by omega)) rfl (fun w hw => ⟨hw.seeOut_ hs_pa nM, hw.apart hs_pa nM (by simp)⟩)) ?_
  rintro _ _ ⟨_, ⟨qp_5, qs_6, y_8, fq_7, hd_9, rfl, rfl⟩, rfl⟩
  refine jH rfl (ja 2 (vs := [.slice y_8.a y_8.l.length y_8.c, str y_8.jt, iv y_8.js]) (cs' := [.slice y_8.a y_8.l.length y_8.c, str y_8.jt, iv y_8.js]) rfl rfl rfl rfl kd rfl rfl (lb rfl) rfl) ?_
  rintro _ _ rfl
  refine jE <| jB <| jN <| kM (pick_perm [1] (A := [Res.rows (rdsD y_8)]) (F := [cb c_2 pa pc p qp_5 qs_6, bk b_1 31 [.slice y_8.a y_8.l.length y_8.c, str y_8.jt, iv y_8.js]]) rfl).symm <| jV (.inl rfl) rfl (kA (jO 2 (vs := [.slice y_8.a y_8.l.length y_8.c, str y_8.jt, iv y_8.js]) rfl rfl ke kd rfl rfl) ⟨_, rfl⟩) (tS 1 _) ?_
  exact ⟨y_8, hd_9, rfl, rfl⟩

set_option maxRecDepth 4000 in
set_option maxHeartbeats 1000000 in
theorem D_dFallDisk (pa : Option Addr) (pc : Nat) (p : Str) (hp : p.length ≤ 1048576) :
    Ct Tryz.prog 46 [.slice pa p.length pc] [] (fun w => Sees w (.slice pa p.length pc) 1 p.length (p.map encB)) (fun v A' => ∃ y k, Drawn y ∧ (-9223372036854775808 ≤ k ∧ k ≤ 9223372036854775807) ∧ v = .tuple #[.agg #[.slice y.a y.l.length y.c, str y.jt, .int .i64 y.js], .int .i64 k] ∧ A' = [.rows (rdsD y)]) := by
  refine Ct.intro Tryz.func46 rfl Tryz.ntmps46 (lb rfl) fun w0 hpre => ?_
  have hs_pa : Sees w0 _ _ _ _ := hpre
  refine jC <| jF ?_
  refine jH rfl (jo (z := .agg #[.slice none 0 0, str [], iv 0]) (cs := [.slice none 0 0, str [], iv 0]) ko rfl) ?_
  rintro _ _ ⟨b_1, rfl, rfl⟩
  refine jA (jG (v := iv 0) rfl) <| jE <| jB <| jC <| jF <| jA (jD (v := .slice pa p.length pc) rfl) ?_
  refine jH rfl (jI [] Tryz.call72 rfl (D_new pa pc p (by omega)) rfl (fun w hw => hw.seeOut_ hs_pa nM)) ?_
  rintro _ _ ⟨_, ⟨c_2, qs_3, -, rfl, rfl⟩, rfl⟩
  refine jA (jG (v := .pointer (some ⟨c_2, 0, none⟩)) rfl) <| jE <| jB <| jC <| jF <| jA (jD (v := .pointer (some ⟨c_2, 0, none⟩)) rfl) ?_
  refine jH rfl (jI [0] Tryz.call88 rfl (D_anyDisk c_2 pa pc p 0 qs_3 (by omega) (by omega)) rfl (fun w hw => ⟨hw.seeOut_ hs_pa nM, hw.apart hs_pa nM (by simp)⟩)) ?_
  rintro _ _ ⟨_, ⟨qp_5, qs_6, y_8, fq_7, hd_9, rfl, rfl⟩, rfl⟩
  refine jA (jD (v := .pointer (some ⟨c_2, 0, none⟩)) rfl) ?_
  refine jH rfl (kH (ps := [(0, iv 0), (1, iv 1), (2, iv 9), (3, iv 1000), (4, iv (-1))]) (cur := #[iv 0, iv 1, iv 9, iv 1000, iv (-1)]) Tryz.underlying41 gA Tryz.zeroValue3 rfl (by kernel_rfl) (by decide) (by decide)) ?_
  rintro _ _ ⟨a_10, rfl, rfl⟩
  refine jH rfl (jI [1, 0] Tryz.call98 rfl (D_pickInt c_2 pa pc p qp_5 qs_6 a_10 5 ([0, 1, 9, 1000, -1] : List Int) (by omega) (by omega) (by simp) (by simp)) rfl (fun w hw => ⟨hw.seeOut_ hs_pa nM, hw.apart hs_pa nM (by simp)⟩)) ?_
  rintro _ _ ⟨_, ⟨qp_11, qs_12, n_14, fq_13, f_15, rfl, rfl⟩, rfl⟩
  have hbn_14 : -9223372036854775808 ≤ n_14 ∧ n_14 ≤ 9223372036854775807 := by have hx_ := f_15; simp only [List.mem_cons, List.not_mem_nil, or_false] at hx_; omega
  refine jH rfl (ja 2 (vs := [.slice y_8.a y_8.l.length y_8.c, str y_8.jt, iv y_8.js]) (cs' := [.slice y_8.a y_8.l.length y_8.c, str y_8.jt, iv y_8.js]) rfl rfl rfl rfl kd rfl rfl (lb rfl) rfl) ?_
  rintro _ _ rfl
  refine jA (jG (v := iv n_14) rfl) <| jE <| jB <| jN <| kM (pick_perm [1] (A := [Res.rows (rdsD y_8)]) (F := [cb c_2 pa pc p qp_11 qs_12, bk b_1 31 [.slice y_8.a y_8.l.length y_8.c, str y_8.jt, iv y_8.js]]) rfl).symm <| kC (.inl rfl) rfl (kA (jO 2 (vs := [.slice y_8.a y_8.l.length y_8.c, str y_8.jt, iv y_8.js]) rfl rfl ke kd rfl rfl) ⟨_, rfl⟩) (jJ (v := iv n_14) rfl) (tS 1 _) ?_
  exact ⟨y_8, n_14, hd_9, (by omega), rfl, rfl⟩

set_option maxRecDepth 4000 in
set_option maxHeartbeats 1000000 in
theorem D_dSameDisk (pa : Option Addr) (pc : Nat) (p : Str) (hp : p.length ≤ 1048576) :
    Ct Tryz.prog 50 [.slice pa p.length pc] [] (fun w => Sees w (.slice pa p.length pc) 1 p.length (p.map encB)) (fun v A' => ∃ y z, Drawn y ∧ Drawn z ∧ v = .tuple #[.agg #[.slice y.a y.l.length y.c, str y.jt, .int .i64 y.js], .agg #[.slice z.a z.l.length z.c, str z.jt, .int .i64 z.js]] ∧ A' = [.rows (rdsD y), .rows (rdsD z)]) := by
  refine Ct.intro Tryz.func50 rfl Tryz.ntmps50 (lb rfl) fun w0 hpre => ?_
  have hs_pa : Sees w0 _ _ _ _ := hpre
  refine jC <| jF ?_
  refine jH rfl (jo (z := .agg #[.slice none 0 0, str [], iv 0]) (cs := [.slice none 0 0, str [], iv 0]) ko rfl) ?_
  rintro _ _ ⟨b_1, rfl, rfl⟩
  refine jH rfl (jo (z := .agg #[.slice none 0 0, str [], iv 0]) (cs := [.slice none 0 0, str [], iv 0]) ko rfl) ?_
  rintro _ _ ⟨b_2, rfl, rfl⟩
  refine jE <| jB <| jC <| jF <| jA (jD (v := .slice pa p.length pc) rfl) ?_
  refine jH rfl (jI [] Tryz.call72 rfl (D_new pa pc p (by omega)) rfl (fun w hw => hw.seeOut_ hs_pa nM)) ?_
  rintro _ _ ⟨_, ⟨c_3, qs_4, -, rfl, rfl⟩, rfl⟩
  refine jA (jG (v := .pointer (some ⟨c_3, 0, none⟩)) rfl) <| jE <| jB <| jC <| jF <| jA (jD (v := .pointer (some ⟨c_3, 0, none⟩)) rfl) ?_
  refine jH rfl (jI [0] Tryz.call88 rfl (D_anyDisk c_3 pa pc p 0 qs_4 (by omega) (by omega)) rfl (fun w hw => ⟨hw.seeOut_ hs_pa nM, hw.apart hs_pa nM (by simp)⟩)) ?_
  rintro _ _ ⟨_, ⟨qp_6, qs_7, y_9, fq_8, hd_10, rfl, rfl⟩, rfl⟩
  refine jH rfl (jo (z := .agg #[.slice none 0 0, str [], iv 0]) (cs := [.slice none 0 0, str [], iv 0]) ko rfl) ?_
  rintro _ _ ⟨b_11, rfl, rfl⟩
  refine jH rfl (ja 0 (vs := [.slice y_9.a y_9.l.length y_9.c, str y_9.jt, iv y_9.js]) (cs' := [.slice y_9.a y_9.l.length y_9.c, str y_9.jt, iv y_9.js]) rfl rfl rfl rfl kd rfl rfl (lb rfl) rfl) ?_
  rintro _ _ rfl
  refine jE <| jB <| jC <| jC <| jF <| jA (jD (v := .pointer (some ⟨c_3, 0, none⟩)) rfl) ?_
  refine jH rfl (jI [1] Tryz.call99 rfl (D_once c_3 pa pc p qp_6 qs_7 (by omega) (by omega) 2 (by omega)) rfl (fun w hw => ⟨hw.seeOut_ hs_pa nM, hw.apart hs_pa nM (by simp)⟩)) ?_
  rintro _ _ ⟨_, ⟨qp_12, qs_13, b_15, fq_14, rfl, rfl⟩, rfl⟩
  refine jE <| jB ?_
  rcases Bool.eq_false_or_eq_true (b_15) with h_17 | h_17
  · refine jW (cB h_17) <| jC <| kJ [bk b_11 31 [.slice y_9.a y_9.l.length y_9.c, str y_9.jt, iv y_9.js]] 4 mixed (by simp) <| jw 0 rfl (jO 0 (vs := [.slice y_9.a y_9.l.length y_9.c, str y_9.jt, iv y_9.js]) rfl rfl ke kd rfl rfl) <| jw 1 rfl (jO 0 (vs := [.slice y_9.a y_9.l.length y_9.c, str y_9.jt, iv y_9.js]) rfl rfl ke kd rfl rfl) <| jj (i := 2) ?_
    refine jz rfl rfl (jI [] Tryz.call56 rfl (Z_specl23Copy y_9 hd_10.l) rfl (fun w hw => hw.seeRows 2 rfl)) ?_
    rintro _ _ ⟨_, ⟨y_20, hy_21, rfl, rfl⟩, rfl⟩
    refine ⟨(by simp), ?_⟩
    refine jj (i := 3) ?_
    refine jz rfl rfl (ja 5 (vs := [.slice y_9.a y_9.l.length y_9.c, str y_9.jt, iv y_9.js]) (cs' := [.slice y_9.a y_9.l.length y_9.c, str y_9.jt, iv y_9.js]) rfl rfl rfl rfl kd rfl rfl (lb rfl) rfl) ?_
    rintro _ _ rfl
    refine ⟨(by simp), ?_⟩
    refine jj (i := 4) ?_
    refine JX.ls rfl (ja 4 (vs := [.slice y_20.a y_20.l.length y_20.c, str y_20.jt, iv y_20.js]) (cs' := [.slice y_20.a y_20.l.length y_20.c, str y_20.jt, iv y_20.js]) rfl rfl rfl rfl kd rfl rfl (lb rfl) rfl) ?_
    rintro _ _ rfl
    refine jB <| jN <| jX <| kM (pick_perm [3, 0] (A := [Res.rows (rdsD y_9), Res.rows (rdsD y_20)]) (F := [cb c_3 pa pc p qp_12 qs_13, bk b_11 31 [.slice y_9.a y_9.l.length y_9.c, str y_9.jt, iv y_9.js], bk b_2 31 [.slice y_20.a y_20.l.length y_20.c, str y_20.jt, iv y_20.js], bk b_1 31 [.slice y_9.a y_9.l.length y_9.c, str y_9.jt, iv y_9.js]]) rfl).symm <| kC (.inl rfl) rfl (kA (jO 5 (vs := [.slice y_9.a y_9.l.length y_9.c, str y_9.jt, iv y_9.js]) rfl rfl ke kd rfl rfl) ⟨_, rfl⟩) (kA (jO 4 (vs := [.slice y_20.a y_20.l.length y_20.c, str y_20.jt, iv y_20.js]) rfl rfl ke kd rfl rfl) ⟨_, rfl⟩) (tS 2 _) ?_
    exact ⟨y_9, y_20, hd_10, hd_10.of (congrArg DD.slots hy_21) (by rw [show y_20.jt = y_9.jt from congrArg DD.jt hy_21]; exact hd_10.j), rfl, rfl⟩
  refine jR (cB h_17) <| jT <| jB <| jC <| kJ [bk b_11 31 [.slice y_9.a y_9.l.length y_9.c, str y_9.jt, iv y_9.js]] 3 mixed (by simp) <| jw 0 rfl (jO 0 (vs := [.slice y_9.a y_9.l.length y_9.c, str y_9.jt, iv y_9.js]) rfl rfl ke kd rfl rfl) <| jL 1 rfl (jD (v := .pointer (some ⟨c_3, 0, none⟩)) rfl) <| jj (i := 2) ?_
  refine jz rfl rfl (jI [0] Tryz.call88 rfl (D_anyDisk c_3 pa pc p qp_12 qs_13 (by omega) (by omega)) rfl (fun w hw => ⟨hw.seeOut_ hs_pa nM, hw.apart hs_pa nM (by simp)⟩)) ?_
  rintro _ _ ⟨_, ⟨qp_27, qs_28, y_30, fq_29, hd_31, rfl, rfl⟩, rfl⟩
  refine ⟨(by simp), ?_⟩
  refine jj (i := 3) ?_
  refine JX.lt rfl (ja 5 (vs := [.slice y_9.a y_9.l.length y_9.c, str y_9.jt, iv y_9.js]) (cs' := [.slice y_9.a y_9.l.length y_9.c, str y_9.jt, iv y_9.js]) rfl rfl rfl rfl kd rfl rfl (lb rfl) rfl) ?_
  rintro _ _ rfl
  refine jj (i := 4) ?_
  refine JX.ls rfl (ja 4 (vs := [.slice y_30.a y_30.l.length y_30.c, str y_30.jt, iv y_30.js]) (cs' := [.slice y_30.a y_30.l.length y_30.c, str y_30.jt, iv y_30.js]) rfl rfl rfl rfl kd rfl rfl (lb rfl) rfl) ?_
  rintro _ _ rfl
  refine jB <| jN <| kM (pick_perm [3, 1] (A := [Res.rows (rdsD y_9), Res.rows (rdsD y_30)]) (F := [cb c_3 pa pc p qp_27 qs_28, bk b_11 31 [.slice y_9.a y_9.l.length y_9.c, str y_9.jt, iv y_9.js], bk b_2 31 [.slice y_30.a y_30.l.length y_30.c, str y_30.jt, iv y_30.js], bk b_1 31 [.slice y_9.a y_9.l.length y_9.c, str y_9.jt, iv y_9.js]]) rfl).symm <| kC (.inl rfl) rfl (kA (jO 5 (vs := [.slice y_9.a y_9.l.length y_9.c, str y_9.jt, iv y_9.js]) rfl rfl ke kd rfl rfl) ⟨_, rfl⟩) (kA (jO 4 (vs := [.slice y_30.a y_30.l.length y_30.c, str y_30.jt, iv y_30.js]) rfl rfl ke kd rfl rfl) ⟨_, rfl⟩) (tS 2 _) ?_
  exact ⟨y_9, y_30, hd_10, hd_31, rfl, rfl⟩

theorem D_dDiskNew (pa : Option Addr) (pc : Nat) (p : Str) (hp : p.length ≤ 1048576)  :
    Ct Tryz.prog 51 [.slice pa p.length pc] [] (fun w => Sees w (.slice pa p.length pc) 1 p.length (p.map encB)) (fun v A' => ∃ r0a r0c r0, (okC' 9 64 r0) ∧ v = .slice r0a r0.length r0c ∧ A' = [rC r0a r0c r0]) := by
  refine Ct.intro Tryz.func51 rfl Tryz.ntmps51 (lb rfl) fun w0 hpre => ?_
  have hs_pa : Sees w0 _ _ _ _ := hpre
  refine jC <| jF <| jA (jG (v := .slice none 0 0) rfl) <| jE <| jB <| jC <| jF <| jA (jD (v := .slice pa p.length pc) rfl) ?_
  refine jH rfl (jI [] Tryz.call72 rfl (D_new pa pc p (by omega)) rfl (fun w hw => hw.seeOut_ hs_pa nM)) ?_
  rintro _ _ ⟨_, ⟨c_1, qs_2, -, rfl, rfl⟩, rfl⟩
  refine jH rfl (jI [0] Tryz.call100 rfl (D_any02 c_1 pa pc p 0 qs_2 (by omega) (by omega)) rfl (fun w hw => ⟨hw.seeOut_ hs_pa nM, hw.apart hs_pa nM (by simp)⟩)) ?_
  rintro _ _ ⟨_, ⟨qp_4, qs_5, l_7a, l_7c, l_7, fq_6, f_8, rfl, rfl⟩, rfl⟩
  have hO1_ := f_8.1
  refine jA (jG (v := .slice l_7a l_7.length l_7c) rfl) <| jE <| jB <| jN <| kM (pick_perm [1] (A := [rC l_7a l_7c l_7]) (F := [cb c_1 pa pc p qp_4 qs_5]) rfl).symm <| jV (.inl rfl) rfl (jJ (v := .slice l_7a l_7.length l_7c) rfl) (tS 1 _) ?_
  exact ⟨l_7a, l_7c, l_7, (by assumption), rfl, rfl⟩

theorem C_equalC (a b : Option Addr) (c c' : Nat) (s t : List Cell) (hn : s.length ≤ 9223372036854775807) :
    Ct Tryz.prog 138 [.slice a s.length c, .slice b t.length c'] [] (fun w => Sees w (.slice a s.length c) 2 s.length (s.flatMap encC) ∧ Sees w (.slice b t.length c') 2 t.length (t.flatMap encC)) (fun r A' => r = .bool (decide (s = t)) ∧ A' = []) := by
  refine Ct.intro Tryz.func138 rfl Tryz.ntmps138 (lb rfl) fun w0 hpre => ?_
  have hs_a : Sees w0 _ _ _ _ := hpre.1
  have hs_b : Sees w0 _ _ _ _ := hpre.2
  refine jC <| jF <| jA (jG (v := .bool false) rfl) <| jE <| jB <| jC <| jC <| jF <| jA (jD (v := .slice a s.length c) rfl) <| jA (jr kf rfl) ?_
  refine jA (jD (v := .slice b t.length c') rfl) <| jA (jr kf rfl) <| jA (kS rfl rfl) <| jE <| jB ?_
  by_cases h_1 : ((s.length : Nat) : Int) = ((t.length : Nat) : Int)
  · have hlen := h_1
    refine jR (cB (cN (dT h_1))) <| jT <| jB <| jC <| jC <| jF <| jA (jD (v := .slice a s.length c) rfl) <| jA (jr kf rfl) <| jA (jD (v := iv 0) rfl) <| jE ?_
    refine jB <| jf <| kD (fun k_ e_ L_ => ∃ j : Nat, (j ≤ s.length) ∧ (s.take j = t.take j) ∧ (s.length = t.length) ∧ e_ 0 = .slice a s.length c ∧ e_ 1 = .slice b t.length c' ∧ e_ 12 = nv s.length ∧ e_ 13 = nv j ∧ L_ = [] ∧ k_ = s.length - j) _ ⟨0, by omega, rfl, by omega, rfl, rfl, rfl, rfl, rfl, rfl⟩ ?_
    rintro _ e_2 _ ⟨j, hj, hE, hln, he_3, he_4, he_5, he_6, rfl, rfl⟩
    refine jC <| jF <| jA (jl he_6 he_5) <| jE <| jB <| jC ?_
    by_cases h_7 : ((j : Nat) : Int) < ((s.length : Nat) : Int)
    · have hlt : j < s.length := by omega
      refine jW (cB (dT h_7)) <| jT <| jB <| jC <| jf <| jC <| jF <| jA (jD (v := nv j) he_6) <| jA (jG (v := nv j) rfl) <| jE ?_
      refine jB <| jC <| kJ [] 8 mixed (by simp) <| jL 0 rfl (jD (v := .slice a s.length c) he_3) <| jL 1 rfl (jD (v := nv j) rfl) ?_
      obtain ⟨hr_8, hr_8b, -⟩ := sees_some hs_a (by omega)
      refine jL 2 rfl (jk (i := j) kf kh hr_8 hr_8b rfl rfl (by omega)) <| jw 3 rfl (kX (vs := [str ((s.getD j c0).1), str ((s.getD j c0).2)]) hs_a nM rfl gG kh (atC (by omega)) rfl (by decide)) <| jL 4 rfl (jD (v := .slice b t.length c') he_4) <| jL 5 rfl (jD (v := nv j) rfl) ?_
      obtain ⟨hr_9, hr_9b, -⟩ := sees_some hs_b (by omega)
      refine jL 6 rfl (jk (i := j) kf kh hr_9 hr_9b rfl rfl (by omega)) <| jw 7 rfl (kX (vs := [str ((t.getD j c0).1), str ((t.getD j c0).2)]) hs_b nM rfl gG kh (atC (by omega)) rfl (by decide)) <| jL 8 rfl (PO.neqCell (a := s.getD j c0) (b := t.getD j c0) rfl rfl) <| kI (by kernel_rfl) <| jB ?_
      by_cases h_10 : s.getD j c0 = t.getD j c0
      · have heq := h_10
        refine jR (cB (cN (dT h_10))) <| jT <| jm <| jB <| jF <| jA (jc (c := ((j + 1 : Nat) : Int)) he_6 rfl (wr (by omega))) <| jA (jD (v := iv ((j + 1 : Nat) : Int)) rfl) <| jE ?_
        refine jq (s.length - (j + 1)) (by omega) ⟨j + 1, by omega, take_succ_eq c0 hE hlt hln heq, hln, he_3, he_4, he_5, rfl, rfl, rfl⟩
      have hne := h_10
      refine jW (cB (cN (dF h_10))) <| jC <| jF <| jA (jG (v := .bool false) rfl) <| jE <| jB <| jN <| jv <| jX <| jX ?_
      refine jv <| jX <| jV (.inl rfl) rfl (jJ (v := .bool false) rfl) (List.nil_sublist _) ?_
      refine ⟨?_, rfl⟩
      rw [dF (fun h => hne (by rw [h]))]
    refine jR (cB (dF h_7)) <| jx <| jb <| jb <| jy <| jB <| jC <| jF <| jA (jG (v := .bool true) rfl) <| jE ?_
    refine jB <| jN <| jV (.inl rfl) rfl (jJ (v := .bool true) rfl) (List.nil_sublist _) ?_
    refine ⟨?_, rfl⟩
    rw [dT (take_all_eq hE (by omega) (by omega))]
  have hlen := h_1
  refine jW (cB (cN (dF h_1))) <| jC <| jF <| jA (jG (v := .bool false) rfl) <| jE <| jB <| jN <| jX <| jV (.inl rfl) rfl (jJ (v := .bool false) rfl) (List.nil_sublist _) ?_
  refine ⟨?_, rfl⟩
  rw [dF (fun h => by rw [h] at hlen; omega)]

theorem C_iSameStore (a b : Option Addr) (c c' : Nat) (s t : List Cell) (hn : s.length ≤ 9223372036854775807) :
    Ct Tryz.prog 102 [.slice a s.length c, .slice b t.length c'] [] (fun w => Sees w (.slice a s.length c) 2 s.length (s.flatMap encC) ∧ Sees w (.slice b t.length c') 2 t.length (t.flatMap encC)) (fun r A' => r = .bool (decide (s = t)) ∧ A' = []) := by
  refine Ct.intro Tryz.func102 rfl Tryz.ntmps102 (lb rfl) fun w0 hpre => ?_
  have hs_a : Sees w0 _ _ _ _ := hpre.1
  have hs_b : Sees w0 _ _ _ _ := hpre.2
  have hcn := hn
  refine jC <| jF <| jA (jG (v := .bool false) rfl) <| jE <| jB <| jC <| jF <| jA (jD (v := .slice a s.length c) rfl) <| jA (jD (v := .slice b t.length c') rfl) ?_
  refine jH rfl (jI [] Tryz.call138 rfl (C_equalC a b c c' s t hcn) rfl (fun w hw => ⟨hw.seeOut_ hs_a nM, hw.seeOut_ hs_b nM⟩)) ?_
  rintro _ _ ⟨_, ⟨rfl, rfl⟩, rfl⟩
  refine jA (jG (v := .bool (decide (s = t))) rfl) <| jE <| jB <| jN <| jV (.inl rfl) rfl (jJ (v := .bool (decide (s = t))) rfl) (List.nil_sublist _) ?_
  exact ⟨rfl, rfl⟩

theorem Y_same1 (p q : OX) (hl : p.t.lim 1000000000) :
    Ct Tryz.prog 101 [.agg #[.int .i64 p.t.seq, .slice p.x.a0 p.t.cells.length p.x.c0, .bool p.t.whole], .agg #[.int .i64 q.t.seq, .slice q.x.a0 q.t.cells.length q.x.c0, .bool q.t.whole]] [] (fun w => SeesA w (rdsO p) ∧ SeesA w (rdsO q)) (fun v A' => v = .bool (decide (p.t = q.t)) ∧ A' = []) := by
  refine Ct.intro Tryz.func101 rfl Tryz.ntmps101 (lb rfl) fun w0 hpre => ?_
  have hs_1 := seesO hpre.1
  have hs_2 := seesO hpre.2
  have hcn : p.t.cells.length ≤ 9223372036854775807 := Nat.le_trans hl.l0 (by decide)
  refine jC <| jF ?_
  refine jH rfl (kG (cs := [iv p.t.seq, .slice p.x.a0 p.t.cells.length p.x.c0, .bool p.t.whole]) rfl rfl) ?_
  rintro _ _ ⟨b_3, rfl, rfl⟩
  refine jH rfl (kG (cs := [iv q.t.seq, .slice q.x.a0 q.t.cells.length q.x.c0, .bool q.t.whole]) rfl rfl) ?_
  rintro _ _ ⟨b_4, rfl, rfl⟩
  refine jA (jG (v := .bool false) rfl) <| jE <| jB <| jC <| jF <| jA (jQ fo60_0 rfl) <| jK (jZ 1 (v := iv p.t.seq) rfl rfl kq rfl) <| jA (jQ fo60_0 rfl) <| jK (jZ 0 (v := iv q.t.seq) rfl rfl kq rfl) <| jA (kO rfl rfl) ?_
  refine jA (jD (v := .bool (decide (p.t.seq = q.t.seq))) rfl) ?_
  by_cases h_5 : p.t.seq = q.t.seq
  · refine jM rfl rfl rfl (cB (dT h_5)) (jP (jU (jQ fo60_2 rfl))) ?_
    rintro _ _ ⟨rfl, rfl⟩
    refine jM rfl rfl rfl (cB (dT h_5)) (jP (jZ 1 (v := .bool p.t.whole) rfl rfl gI rfl)) ?_
    rintro _ _ ⟨rfl, rfl⟩
    refine jM rfl rfl rfl (cB (dT h_5)) (jP (jU (jQ fo60_2 rfl))) ?_
    rintro _ _ ⟨rfl, rfl⟩
    refine jM rfl rfl rfl (cB (dT h_5)) (jP (jZ 0 (v := .bool q.t.whole) rfl rfl gI rfl)) ?_
    rintro _ _ ⟨rfl, rfl⟩
    refine jM rfl rfl rfl (cB (dT h_5)) (jP (jU (PO.eqlB gJ rfl rfl))) ?_
    rintro _ _ ⟨rfl, rfl⟩
    refine jA (jh (v := .bool (decide (p.t.whole = q.t.whole))) (cB (dT h_5)) rfl) <| jA (jD (v := .bool (decide (p.t.whole = q.t.whole))) rfl) ?_
    by_cases h_6 : p.t.whole = q.t.whole
    · refine jM rfl rfl rfl (cB (dT h_6)) (jP (jU (jQ fo60_1 rfl))) ?_
      rintro _ _ ⟨rfl, rfl⟩
      refine jM rfl rfl rfl (cB (dT h_6)) (jP (jZ 1 (v := .slice p.x.a0 p.t.cells.length p.x.c0) rfl rfl kz rfl)) ?_
      rintro _ _ ⟨rfl, rfl⟩
      refine jM rfl rfl rfl (cB (dT h_6)) (jP (jU (jQ fo60_1 rfl))) ?_
      rintro _ _ ⟨rfl, rfl⟩
      refine jM rfl rfl rfl (cB (dT h_6)) (jP (jZ 0 (v := .slice q.x.a0 q.t.cells.length q.x.c0) rfl rfl kz rfl)) ?_
      rintro _ _ ⟨rfl, rfl⟩
      refine jM rfl rfl rfl (cB (dT h_6)) (jI [] Tryz.call102 rfl (C_iSameStore p.x.a0 q.x.a0 p.x.c0 q.x.c0 p.t.cells q.t.cells hcn) rfl (fun w hw => ⟨hw.seeOut_ hs_1 nM, hw.seeOut_ hs_2 nM⟩)) ?_
      rintro _ _ ⟨_, ⟨rfl, rfl⟩, rfl⟩
      refine jA (jh (v := .bool (decide (p.t.cells = q.t.cells))) (cB (dT h_6)) rfl) <| jA (jG (v := .bool (decide (p.t.cells = q.t.cells))) rfl) <| jE <| jB <| jN <| jV (.inl rfl) rfl (jJ (v := .bool (decide (p.t.cells = q.t.cells))) rfl) (List.nil_sublist _) ?_
      refine ⟨cB (decide_eq_decide.2 ?_), rfl⟩
      rw [sameO]
      simp_all
    refine jS (b := false) rfl rfl rfl (cB (dF h_6)) <| jS (b := false) rfl rfl rfl (cB (dF h_6)) <| jS (b := false) rfl rfl rfl (cB (dF h_6)) <| jS (b := false) rfl rfl rfl (cB (dF h_6)) <| jS (b := false) rfl rfl rfl (cB (dF h_6)) <| jA (ji (v := .bool false) (cB (dF h_6)) rfl) <| jA (jG (v := .bool false) rfl) <| jE <| jB <| jN ?_
    refine jV (.inl rfl) rfl (jJ (v := .bool false) rfl) (List.nil_sublist _) ?_
    refine ⟨cB (dF (fun h_ => ?_)).symm, rfl⟩
    have h2_ := sameO.1 h_
    simp_all
  refine jS (b := false) rfl rfl rfl (cB (dF h_5)) <| jS (b := false) rfl rfl rfl (cB (dF h_5)) <| jS (b := false) rfl rfl rfl (cB (dF h_5)) <| jS (b := false) rfl rfl rfl (cB (dF h_5)) <| jS (b := false) rfl rfl rfl (cB (dF h_5)) <| jA (ji (v := .bool false) (cB (dF h_5)) rfl) <| jA (jD (v := .bool false) rfl) <| jS (b := false) rfl rfl rfl (cB rfl) <| jS (b := false) rfl rfl rfl (cB rfl) <| jS (b := false) rfl rfl rfl (cB rfl) ?_
  refine jS (b := false) rfl rfl rfl (cB rfl) <| jS (b := false) rfl rfl rfl (cB rfl) <| jA (ji (v := .bool false) (cB rfl) rfl) <| jA (jG (v := .bool false) rfl) <| jE <| jB <| jN <| jV (.inl rfl) rfl (jJ (v := .bool false) rfl) (List.nil_sublist _) ?_
  refine ⟨cB (dF (fun h_ => ?_)).symm, rfl⟩
  have h2_ := sameO.1 h_
  simp_all

theorem Y_equalF (a b : Option Addr) (c c' : Nat) (s t : List OX) (hn : s.length ≤ 9223372036854775807) (hl : ∀ q ∈ s, q.t.lim 1000000000) :
    Ct Tryz.prog 103 [.slice a s.length c, .slice b t.length c', .func (.func 101) #[] #[]] [] (fun w => SeesA w (rdsOS a c s) ∧ SeesA w (rdsOS b c' t)) (fun r A' => r = .bool (decide (s.map OX.t = t.map OX.t)) ∧ A' = []) := by
  refine Ct.intro Tryz.func103 rfl Tryz.ntmps103 (lb rfl) fun w0 hpre => ?_
  have hs_1 : Sees w0 (.slice a s.length c) 3 s.length (s.flatMap encO) := (hpre.1).head
  have hi_2 : SeesA w0 (s.flatMap rdsO) := (hpre.1).tail
  have hs_3 : Sees w0 (.slice b t.length c') 3 t.length (t.flatMap encO) := (hpre.2).head
  have hi_4 : SeesA w0 (t.flatMap rdsO) := (hpre.2).tail
  refine jC <| jF <| jA (jG (v := .bool false) rfl) <| jE <| jB <| jC <| jC <| jF <| jA (jD (v := .slice a s.length c) rfl) <| jA (jr km rfl) ?_
  refine jA (jD (v := .slice b t.length c') rfl) <| jA (jr km rfl) <| jA (kS rfl rfl) <| jE <| jB ?_
  by_cases h_5 : ((s.length : Nat) : Int) = ((t.length : Nat) : Int)
  · have hlen := h_5
    refine jR (cB (cN (dT h_5))) <| jT <| jB <| jC <| jC <| jF <| jA (jD (v := .slice a s.length c) rfl) <| jA (jr km rfl) <| jA (jD (v := iv 0) rfl) <| jE ?_
    refine jB <| jf <| kD (fun k_ e_ L_ => ∃ j : Nat, (j ≤ s.length) ∧ ((s.take j).map OX.t = (t.take j).map OX.t) ∧ (s.length = t.length) ∧ e_ 1 = .slice b t.length c' ∧ e_ 2 = .func (.func 101) #[] #[] ∧ e_ 15 = .slice a s.length c ∧ e_ 16 = nv s.length ∧ e_ 17 = nv j ∧ L_ = [] ∧ k_ = s.length - j) _ ⟨0, by omega, rfl, by omega, rfl, rfl, rfl, rfl, rfl, rfl, rfl⟩ ?_
    rintro _ e_6 _ ⟨j, hj, hE, hln, he_7, he_8, he_9, he_10, he_11, rfl, rfl⟩
    refine jC <| jF <| jA (jl he_11 he_10) <| jE <| jB <| jC ?_
    by_cases h_12 : ((j : Nat) : Int) < ((s.length : Nat) : Int)
    · have hlt : j < s.length := by omega
      refine jW (cB (dT h_12)) <| jT <| jB <| jC <| jf <| jC <| jF <| jA (jD (v := nv j) he_11) ?_
      obtain ⟨hr_13, hr_13b, -⟩ := sees_some hs_1 (by omega)
      refine jA (jk (i := j) km kj hr_13 hr_13b he_9 he_11 (by omega)) ?_
      have hi_14 := SeesA.elem hi_2 o0 (show j < s.length by omega)
      have hs_15 := seesO hi_14
      refine jK (kX (vs := [iv ((s.getD j o0).t.seq), .slice ((s.getD j o0).x.a0) ((s.getD j o0).t.cells.length) ((s.getD j o0).x.c0), .bool ((s.getD j o0).t.whole)]) hs_1 nM rfl gB kj (flat_take encO_len o0 s j (by omega)) rfl (by decide)) ?_
      refine jH rfl (jo (z := .agg #[iv 0, .slice none 0 0, .bool false]) (cs := [iv 0, .slice none 0 0, .bool false]) gD rfl) ?_
      rintro _ _ ⟨b_16, rfl, rfl⟩
      refine jA (jG (v := nv j) rfl) ?_
      refine jH rfl (ja 0 (vs := [iv ((s.getD j o0).t.seq), .slice ((s.getD j o0).x.a0) ((s.getD j o0).t.cells.length) ((s.getD j o0).x.c0), .bool ((s.getD j o0).t.whole)]) (cs' := [iv ((s.getD j o0).t.seq), .slice ((s.getD j o0).x.a0) ((s.getD j o0).t.cells.length) ((s.getD j o0).x.c0), .bool ((s.getD j o0).t.whole)]) rfl rfl rfl rfl kj rfl rfl (lb rfl) rfl) ?_
      rintro _ _ rfl
      refine jE <| jB <| jC <| jF <| jA (jD (v := .slice b t.length c') he_7) <| jA (jD (v := nv j) rfl) ?_
      obtain ⟨hr_17, hr_17b, -⟩ := sees_some hs_3 (by omega)
      refine jA (jk (i := j) km kj hr_17 hr_17b rfl rfl (by omega)) ?_
      have hi_18 := SeesA.elem hi_4 o0 (show j < t.length by omega)
      have hs_19 := seesO hi_18
      refine jK (kX (vs := [iv ((t.getD j o0).t.seq), .slice ((t.getD j o0).x.a0) ((t.getD j o0).t.cells.length) ((t.getD j o0).x.c0), .bool ((t.getD j o0).t.whole)]) hs_3 nM rfl gB kj (flat_take encO_len o0 t j (by omega)) rfl (by decide)) ?_
      refine jH rfl (jo (z := .agg #[iv 0, .slice none 0 0, .bool false]) (cs := [iv 0, .slice none 0 0, .bool false]) gD rfl) ?_
      rintro _ _ ⟨b_20, rfl, rfl⟩
      refine jH rfl (ja 0 (vs := [iv ((t.getD j o0).t.seq), .slice ((t.getD j o0).x.a0) ((t.getD j o0).t.cells.length) ((t.getD j o0).x.c0), .bool ((t.getD j o0).t.whole)]) (cs' := [iv ((t.getD j o0).t.seq), .slice ((t.getD j o0).x.a0) ((t.getD j o0).t.cells.length) ((t.getD j o0).x.c0), .bool ((t.getD j o0).t.whole)]) rfl rfl rfl rfl kj rfl rfl (lb rfl) rfl) ?_
      rintro _ _ rfl
      refine jE <| jB <| jC <| jF <| jA (jD (v := .func (.func 101) #[] #[]) he_8) <| jK (jO 1 (vs := [iv ((s.getD j o0).t.seq), .slice ((s.getD j o0).x.a0) ((s.getD j o0).t.cells.length) ((s.getD j o0).x.c0), .bool ((s.getD j o0).t.whole)]) rfl rfl gB kj rfl rfl) <| jK (jO 0 (vs := [iv ((t.getD j o0).t.seq), .slice ((t.getD j o0).x.a0) ((t.getD j o0).t.cells.length) ((t.getD j o0).x.c0), .bool ((t.getD j o0).t.whole)]) rfl rfl gB kj rfl rfl) ?_
      refine jH rfl (JO.callV [] Tryz.call101 rfl (Y_same1 (s.getD j o0) (t.getD j o0) (hl _ (getD_mem (by omega)))) rfl rfl (fun w hw => ⟨hw.seeOutA hi_14 nMA, hw.seeOutA hi_18 nMA⟩)) ?_
      rintro _ _ ⟨_, ⟨rfl, rfl⟩, rfl⟩
      refine jA (jp rfl) <| jE <| jB ?_
      by_cases h_21 : (s.getD j o0).t = (t.getD j o0).t
      · have heq := h_21
        refine jR (cB (cN (dT h_21))) <| jT <| jm <| jB <| jF <| jA (jc (c := ((j + 1 : Nat) : Int)) he_11 rfl (wr (by omega))) <| jA (jD (v := iv ((j + 1 : Nat) : Int)) rfl) <| jE <| kB [] (A := []) rfl ?_
        refine jq (s.length - (j + 1)) (by omega) ⟨j + 1, by omega, take_succM_eq o0 hE hlt hln heq, hln, he_7, he_8, he_9, he_10, rfl, rfl, rfl⟩
      have hne := h_21
      refine jW (cB (cN (dF h_21))) <| jC <| jF <| jA (jG (v := .bool false) rfl) <| jE <| jB <| jN <| jv <| jX <| jX ?_
      refine jv <| jX <| jV (.inl rfl) rfl (jJ (v := .bool false) rfl) (List.nil_sublist _) ?_
      refine ⟨?_, rfl⟩
      rw [dF (fun h => hne (getM_eq o0 h hlt hln))]
    refine jR (cB (dF h_12)) <| jx <| jb <| jb <| jy <| jB <| jC <| jF <| jA (jG (v := .bool true) rfl) <| jE ?_
    refine jB <| jN <| jV (.inl rfl) rfl (jJ (v := .bool true) rfl) (List.nil_sublist _) ?_
    refine ⟨?_, rfl⟩
    rw [dT (take_allM_eq hE (by omega) (by omega))]
  have hlen := h_5
  refine jW (cB (cN (dF h_5))) <| jC <| jF <| jA (jG (v := .bool false) rfl) <| jE <| jB <| jN <| jX <| jV (.inl rfl) rfl (jJ (v := .bool false) rfl) (List.nil_sublist _) ?_
  refine ⟨?_, rfl⟩
  rw [dF (fun h => by have h2 := congrArg List.length h; rw [List.length_map, List.length_map] at h2; omega)]

theorem Y_iSameDisk (d e : DX) (hl : d.dat.lim 1000000000) :
    Ct Tryz.prog 52 [.agg #[.slice d.a d.l.length d.c, str d.jt, .int .i64 d.js], .agg #[.slice e.a e.l.length e.c, str e.jt, .int .i64 e.js]] [] (fun w => SeesA w (rdsD d) ∧ SeesA w (rdsD e)) (fun v A' => v = .bool (decide (d.dat = e.dat)) ∧ A' = []) := by
  refine Ct.intro Tryz.func52 rfl Tryz.ntmps52 (lb rfl) fun w0 hpre => ?_
  have hs_1 : Sees w0 (.slice d.a d.l.length d.c) 3 d.l.length (d.l.flatMap encO) := (hpre.1).head
  have hi_2 : SeesA w0 (d.l.flatMap rdsO) := (hpre.1).tail
  have hs_3 : Sees w0 (.slice e.a e.l.length e.c) 3 e.l.length (e.l.flatMap encO) := (hpre.2).head
  have hi_4 : SeesA w0 (e.l.flatMap rdsO) := (hpre.2).tail
  have hlm : d.l.length ≤ 1000000000 ∧ ∀ q ∈ d.l, q.t.lim 1000000000 := ⟨by have := hl.l0; simpa only [DX.dat, List.length_map] using this, fun q hq => hl.l1 _ (List.mem_map_of_mem hq)⟩
  have hlm0 := hlm.1
  refine jC <| jF ?_
  refine jH rfl (kG (cs := [.slice d.a d.l.length d.c, str d.jt, iv d.js]) rfl rfl) ?_
  rintro _ _ ⟨b_5, rfl, rfl⟩
  refine jH rfl (kG (cs := [.slice e.a e.l.length e.c, str e.jt, iv e.js]) rfl rfl) ?_
  rintro _ _ ⟨b_6, rfl, rfl⟩
  refine jA (jG (v := .bool false) rfl) <| jE <| jB <| jC <| jF <| jA (jG (v := .func (.func 101) #[] #[]) rfl) <| jE <| jB <| jC <| jF ?_
  refine jA (jQ fo31_1 rfl) <| jK (jO 1 (vs := [str d.jt, iv d.js]) rfl rfl kp kl rfl rfl) <| jA (jQ fo31_1 rfl) <| jK (jO 0 (vs := [str e.jt, iv e.js]) rfl rfl kp kl rfl rfl) <| jA (PO.eqlJ rfl rfl) <| jA (jD (v := .bool (decide (d.jt = e.jt ∧ d.js = e.js))) rfl) ?_
  by_cases h_7 : d.jt = e.jt ∧ d.js = e.js
  · refine jM rfl rfl rfl (cB (dT h_7)) (jP (jU (jQ fo31_0 rfl))) ?_
    rintro _ _ ⟨rfl, rfl⟩
    refine jM rfl rfl rfl (cB (dT h_7)) (jP (jZ 1 (v := .slice d.a d.l.length d.c) rfl rfl ks rfl)) ?_
    rintro _ _ ⟨rfl, rfl⟩
    refine jM rfl rfl rfl (cB (dT h_7)) (jP (jU (jQ fo31_0 rfl))) ?_
    rintro _ _ ⟨rfl, rfl⟩
    refine jM rfl rfl rfl (cB (dT h_7)) (jP (jZ 0 (v := .slice e.a e.l.length e.c) rfl rfl ks rfl)) ?_
    rintro _ _ ⟨rfl, rfl⟩
    refine jM rfl rfl rfl (cB (dT h_7)) (jP (jU (jD (v := .func (.func 101) #[] #[]) rfl))) ?_
    rintro _ _ ⟨rfl, rfl⟩
    refine jM rfl rfl rfl (cB (dT h_7)) (jI [] Tryz.call103 rfl (Y_equalF d.a e.a d.c e.c d.l e.l (by omega) hlm.2) rfl (fun w hw => ⟨SeesA.cons (hw.seeOut_ hs_1 nM) (hw.seeOutA hi_2 nMA), SeesA.cons (hw.seeOut_ hs_3 nM) (hw.seeOutA hi_4 nMA)⟩)) ?_
    rintro _ _ ⟨_, ⟨rfl, rfl⟩, rfl⟩
    refine jA (jh (v := .bool (decide (d.l.map OX.t = e.l.map OX.t))) (cB (dT h_7)) rfl) <| jA (jG (v := .bool (decide (d.l.map OX.t = e.l.map OX.t))) rfl) <| jE <| jB <| jN <| jV (.inl rfl) rfl (jJ (v := .bool (decide (d.l.map OX.t = e.l.map OX.t))) rfl) (List.nil_sublist _) ?_
    refine ⟨cB (decide_eq_decide.2 ?_), rfl⟩
    rw [sameDX]
    simp_all
  refine jS (b := false) rfl rfl rfl (cB (dF h_7)) <| jS (b := false) rfl rfl rfl (cB (dF h_7)) <| jS (b := false) rfl rfl rfl (cB (dF h_7)) <| jS (b := false) rfl rfl rfl (cB (dF h_7)) <| jS (b := false) rfl rfl rfl (cB (dF h_7)) <| jS (b := false) rfl rfl rfl (cB (dF h_7)) <| jA (ji (v := .bool false) (cB (dF h_7)) rfl) <| jA (jG (v := .bool false) rfl) <| jE <| jB ?_
  refine jN <| jV (.inl rfl) rfl (jJ (v := .bool false) rfl) (List.nil_sublist _) ?_
  refine ⟨cB (dF (fun h_ => ?_)).symm, rfl⟩
  have h2_ := sameDX.1 h_
  simp_all

end Go.Proofs.YtjncpgcccgdeiaaGreatDoor
