/-
Texts of the walk, joined: what each one proves stands at its theorems.
-/
import Derived.Test.YthlfmbbaomdciaaGreatDoorXClashingDatCl
set_option linter.unusedSimpArgs false
set_option linter.unusedVariables false
set_option linter.unnecessarySimpa false
set_option maxHeartbeats 4000000
set_option maxRecDepth 4000
namespace Go.Proofs.YthlfmbbaomdciaaGreatDoor
open Go Go.RowKit
attribute [local irreducible] JL JC JQ JO LO PO JA JX Ct
theorem N_findT1 (q : TX) (kb : Nat) (id : Int) :
   Ct Tryz.prog 162 [.agg #[.int .i64 q.t.id, .int .i64 q.t.age, .int .i64 q.t.proc, .int .i64 q.t.began, .slice q.x.a0 q.t.calls.length q.x.c0, .slice q.x.a1 q.t.ans.length q.x.c1, .slice q.x.a2 q.t.rd.length q.x.c2, .slice q.x.a3 q.t.wr.length q.x.c3, .slice q.x.a4 q.t.marks.length q.x.c4, .int .i64 q.t.state], .pointer (some ⟨kb, 0, none⟩)] [bk kb 3 [.int .i64 id]] (fun _ => True) (fun v A' => v = .bool (decide (q.t.id = id)) ∧ A' = [bk kb 3 [.int .i64 id]]) := by
 refine Ct.intro Tryz.func162 rfl Tryz.ntmps162 (lb rfl) fun w0 hpre => ?_
 refine go ?_
 refine jM (xc q) fun b_1 => ?_
 refine go ?_
 exact jJ [1] ⟨rfl, rfl⟩

theorem C_ixfindT (a : Option Addr) (c : Nat) (l : List TX) (hn : l.length ≤ 1000000000000) (kb : Nat) (id : Int) :
   Ct Tryz.prog 161 [.slice a l.length c, .func (.func 162) #[] #[.pointer (some ⟨kb, 0, none⟩)]] [bk kb 3 [.int .i64 id]] (fun w_ => Sees w_ (.slice a l.length c) 10 l.length (l.flatMap encX) ∧ (∀ b, (Value.slice a l.length c).ownBlock = some b → b ≠ kb)) (fun v A' => v = .int .i64 (findT (l.map TX.t) id) ∧ A' = [bk kb 3 [.int .i64 id]]) := by
 refine Ct.intro Tryz.func161 rfl Tryz.ntmps161 (lb rfl) fun w0 hpre => ?_
 refine go ?_
 refine jL (fun k_ e_ L_ => ∃ j : Nat, (j ≤ l.length) ∧ (∀ i, i < j → ¬ ((l.getD i x0).t.id = id)) ∧ EL e_ [(0, .slice a l.length c), (1, .func (.func 162) #[] #[.pointer (some ⟨kb, 0, none⟩)]), (7, nv l.length), (8, nv j)] ∧ L_ = [bk kb 3 [iv id]] ∧ k_ = l.length - j) _ ⟨0, by omega, (fun i hi => absurd hi (Nat.not_lt_zero i)), EL.go, rfl, rfl⟩ ?_
 rintro _ _ _ ⟨j, hj, hN, ⟨_, rfl⟩, rfl, rfl⟩
 refine go ?_
 by_cases h_1 : ((j : Nat) : Int) < ((l.length : Nat) : Int)
 · have hlt : j < l.length := by omega
   refine go ?_
   obtain ⟨hr_2, hr_2b, -⟩ := sees_some hpre.1 (by omega)
   refine go ?_
   refine jU (jj (vs := (xc (l.getD j x0))) hpre.1 (notin_bk hpre.2) rfl kT kQ (flat_take encX_len x0 l j (by omega)) rfl (by decide)) ?_
   refine jF rfl (JO.callV [0] Tryz.call162 rfl (N_findT1 (l.getD j x0) kb id) rfl rfl (fun _ _ => trivial)) ?_
   rintro _ _ ⟨_, ⟨rfl, rfl⟩, rfl⟩
   refine go ?_
   by_cases h_3 : (l.getD j x0).t.id = id
   · have hpj := h_3
     refine go ?_
     refine jE (.inl rfl) rfl (jC (v := nv j) rfl) (List.Sublist.refl _) ?_
     refine ⟨congrArg (Value.int .i64) ?_, rfl⟩
     exact (idxT_found (P := fun t => t.id = id) hlt hN hpj).symm
   have hpj := h_3
   refine go ?_
   refine jV (l.length - (j + 1)) (by omega) ⟨j + 1, by omega, (fun i hi => if h : i = j then h ▸ hpj else hN i (by omega)), EL.go, rfl, rfl⟩
 refine go ?_
 refine jE (.inl rfl) rfl (jC (v := iv (-1)) rfl) (List.Sublist.refl _) ?_
 refine ⟨congrArg (Value.int .i64) ?_, rfl⟩
 exact (idxT_none (P := fun t => t.id = id) (by omega) hN).symm

theorem N_iFindTx (a : Option Addr) (c : Nat) (l : List TX) (hn : l.length ≤ 1000000000) (id : Int) :
   Ct Tryz.prog 77 [.slice a l.length c, .int .i64 id] [] (fun w_ => Sees w_ (.slice a l.length c) 10 l.length (l.flatMap encX)) (fun v A' => v = .int .i64 (findT (l.map TX.t) id) ∧ A' = []) := by
 refine Ct.intro Tryz.func77 rfl Tryz.ntmps77 (lb rfl) fun w0 hpre => ?_
 refine go ?_
 refine jM [iv id] fun b_1 => ?_
 refine go ?_
 refine jK (PO.makeFunc (fv := []) (cv := [.pointer (some ⟨b_1, 0, none⟩)]) rfl rfl) ?_
 refine jN [0] (C_ixfindT a c l (by omega) b_1 id) (hpre := fun w hw => ⟨hw.seeOut_ hpre nM, hw.apartF 0 hpre rfl List.not_mem_nil⟩) ?_
 have hlo_2 := idxT_lo (fun t => t.id = id) (l.map TX.t)
 refine go ?_
 exact jJ [] ⟨rfl, rfl⟩

theorem N_sFindTx (a : Option Addr) (c : Nat) (l : List TX) (hn : l.length ≤ 1000000000) (id : Int) :
   Ct Tryz.prog 78 [.slice a l.length c, .int .i64 id] [] (fun w_ => Sees w_ (.slice a l.length c) 10 l.length (l.flatMap encX)) (fun v A' => v = .int .i64 (findT (l.map TX.t) id) ∧ A' = []) := by
 refine Ct.intro Tryz.func78 rfl Tryz.ntmps78 (lb rfl) fun w0 hpre => ?_
 refine go ?_
 refine jL (fun k_ e_ L_ => ∃ j : Nat, (j ≤ l.length) ∧ (∀ i, i < j → ¬ ((l.getD i x0).t.id = id)) ∧ EL e_ [(0, .slice a l.length c), (1, iv id), (5, nv j)] ∧ L_ = [] ∧ k_ = l.length - j) _ ⟨0, by omega, (fun i hi => absurd hi (Nat.not_lt_zero i)), EL.go, rfl, rfl⟩ ?_
 rintro _ _ _ ⟨j, hj, hN, ⟨_, rfl⟩, rfl, rfl⟩
 refine go ?_
 by_cases h_1 : ((j : Nat) : Int) < ((l.length : Nat) : Int)
 · have hlt : j < l.length := by omega
   refine go ?_
   obtain ⟨hr_2, hr_2b, -⟩ := sees_some hpre (by omega)
   refine go ?_
   refine jU (jY (v := iv (l.getD j x0).t.id) hpre nM rfl kR (flat_at encX_len x0 l j 0 (by omega) (by decide))) ?_
   refine go ?_
   by_cases h_3 : (l.getD j x0).t.id = id
   · have hpj := h_3
     refine go ?_
     refine jE (.inl rfl) rfl (jC (v := nv j) rfl) (List.nil_sublist _) ?_
     refine ⟨congrArg (Value.int .i64) ?_, rfl⟩
     exact (idxT_found (P := fun t => t.id = id) hlt hN hpj).symm
   have hpj := h_3
   refine go ?_
   refine jV (l.length - (j + 1)) (by omega) ⟨j + 1, by omega, (fun i hi => if h : i = j then h ▸ hpj else hN i (by omega)), EL.go, rfl, rfl⟩
 refine go ?_
 refine jE (.inl rfl) rfl (jC (v := iv (-1)) rfl) (List.nil_sublist _) ?_
 refine ⟨congrArg (Value.int .i64) ?_, rfl⟩
 exact (idxT_none (P := fun t => t.id = id) (by omega) hN).symm

theorem N_live1 (q : TX) :
   Ct Tryz.prog 158 [.agg #[.int .i64 q.t.id, .int .i64 q.t.age, .int .i64 q.t.proc, .int .i64 q.t.began, .slice q.x.a0 q.t.calls.length q.x.c0, .slice q.x.a1 q.t.ans.length q.x.c1, .slice q.x.a2 q.t.rd.length q.x.c2, .slice q.x.a3 q.t.wr.length q.x.c3, .slice q.x.a4 q.t.marks.length q.x.c4, .int .i64 q.t.state]] [] (fun _ => True) (fun v A' => v = .bool (liveP q.t) ∧ A' = []) := by
 refine Ct.intro Tryz.func158 rfl Tryz.ntmps158 (lb rfl) fun w0 hpre => ?_
 refine go ?_
 refine jM (xc q) fun b_1 => ?_
 refine go ?_
 exact jJ [] ⟨rfl, rfl⟩

theorem N_clash1 (q : TX) (hq : okS q.t.rd ∧ okS q.t.wr) (kb : Nat) (but : Int) (tb : Nat) (ta ua : Option Addr) (tc uc : Nat) (r u : List Str) (hr : okS r) (hu : okS u) :
   Ct Tryz.prog 157 [.agg #[.int .i64 q.t.id, .int .i64 q.t.age, .int .i64 q.t.proc, .int .i64 q.t.began, .slice q.x.a0 q.t.calls.length q.x.c0, .slice q.x.a1 q.t.ans.length q.x.c1, .slice q.x.a2 q.t.rd.length q.x.c2, .slice q.x.a3 q.t.wr.length q.x.c3, .slice q.x.a4 q.t.marks.length q.x.c4, .int .i64 q.t.state], .pointer (some ⟨kb, 0, none⟩), .pointer (some ⟨tb, 0, none⟩)] [bk kb 3 [.int .i64 but], bk tb 32 [.slice ta r.length tc, .slice ua u.length uc]] (fun w => (SeesA w (rdsX q) ∧ apR (rdsX q) (idsOf [bk kb 3 [.int .i64 but], bk tb 32 [.slice ta r.length tc, .slice ua u.length uc]])) ∧ (Sees w (.slice ta r.length tc) 1 r.length (r.map str) ∧ (∀ b, (Value.slice ta r.length tc).ownBlock = some b → b ∉ idsOf [bk kb 3 [.int .i64 but], bk tb 32 [.slice ta r.length tc, .slice ua u.length uc]])) ∧ (Sees w (.slice ua u.length uc) 1 u.length (u.map str) ∧ (∀ b, (Value.slice ua u.length uc).ownBlock = some b → b ∉ idsOf [bk kb 3 [.int .i64 but], bk tb 32 [.slice ta r.length tc, .slice ua u.length uc]]))) (fun v A' => v = .bool (clashP r u but q.t) ∧ A' = [bk kb 3 [.int .i64 but], bk tb 32 [.slice ta r.length tc, .slice ua u.length uc]]) := by
 refine Ct.intro Tryz.func157 rfl Tryz.ntmps157 (lb rfl) fun w0 hpre => ?_
 obtain ⟨hs_1, hs_2, hs_3, hs_4, hs_5⟩ := seesX hpre.1.1
 obtain ⟨hq2, hq3⟩ := apX hpre.1.2
 refine go ?_
 refine jM (xc q) fun b_6 => ?_
 refine go ?_
 by_cases h_7 : q.t.state = 1
 · refine go ?_
   by_cases h_8 : q.t.id = but
   · refine go ?_
     refine ju (pick_perm [1, 1] (A := [bk kb 3 [iv but], bk tb 32 [.slice ta r.length tc, .slice ua u.length uc]]) (F := [bk b_6 35 (xc q)]) rfl).symm ?_
     refine jE (.inl rfl) rfl (jC (v := .bool false) rfl) (tS 2 _) ?_
     exact ⟨cB (by first | exact (clashP_off1 (by assumption)).symm | exact (clashP_off2 (by assumption)).symm | exact (clashP_off3 (by assumption)).symm), rfl⟩
   refine go ?_
   refine jW rfl rfl rfl (cB (cN (dF h_8))) (jO [] Tryz.call146 rfl (Y_implClash q.x.a2 q.x.a3 ta ua q.x.c2 q.x.c3 tc uc q.t.rd q.t.wr r u hq.1 hq.2 hr hu) rfl (fun w hw => ⟨hw.seeOut_ hs_3 hq2, hw.seeOut_ hs_4 hq3, hw.seeOut_ hpre.2.1.1 hpre.2.1.2, hw.seeOut_ hpre.2.2.1 hpre.2.2.2⟩)) ?_
   rintro _ _ ⟨_, ⟨rfl, rfl⟩, rfl⟩
   refine go ?_
   refine ju (pick_perm [1, 1] (A := [bk kb 3 [iv but], bk tb 32 [.slice ta r.length tc, .slice ua u.length uc]]) (F := [bk b_6 35 (xc q)]) rfl).symm ?_
   refine jE (.inl rfl) rfl (jC (v := .bool (clashT q.t.rd q.t.wr r u)) rfl) (tS 2 _) ?_
   exact ⟨cB (clashP_of (by assumption) (by assumption)), rfl⟩
 refine go ?_
 refine ju (pick_perm [1, 1] (A := [bk kb 3 [iv but], bk tb 32 [.slice ta r.length tc, .slice ua u.length uc]]) (F := [bk b_6 35 (xc q)]) rfl).symm ?_
 refine jE (.inl rfl) rfl (jC (v := .bool false) rfl) (tS 2 _) ?_
 exact ⟨cB (by first | exact (clashP_off1 (by assumption)).symm | exact (clashP_off2 (by assumption)).symm | exact (clashP_off3 (by assumption)).symm), rfl⟩

set_option maxRecDepth 4000 in
theorem C_idsLive (a : Option Addr) (c : Nat) (l : List TX) (hn : l.length ≤ 1000000000) :
   Ct Tryz.prog 156 [.slice a l.length c, .func (.func 158) #[] #[]] [] (fun w => Sees w (.slice a l.length c) 10 l.length (l.flatMap encX)) (fun v A' => ∃ a' c', v = .slice a' (idsT liveP (l.map TX.t)).length c' ∧ A' = [rI a' c' (idsT liveP (l.map TX.t))]) := by
 refine Ct.intro Tryz.func156 rfl Tryz.ntmps156 (lb rfl) fun w0 hpre => ?_
 refine go ?_
 refine JC.nilRow 3 1 <| jL (fun k_ e_ L_ => ∃ j : Nat, ∃ oa : Option Addr, ∃ oc : Nat, ∃ o_ : List Int, (j ≤ l.length) ∧ (o_.length ≤ j) ∧ (o_ = idsT liveP ((l.take j).map TX.t)) ∧ EL e_ [(1, .func (.func 158) #[] #[]), (4, .slice none 0 0), (5, .slice oa o_.length oc), (8, .slice a l.length c), (9, nv l.length), (10, nv j)] ∧ L_ = [rI oa oc o_] ∧ k_ = l.length - j) _ ⟨0, none, 0, ([] : List Int), by omega, (Nat.le_refl _), rfl, EL.go, rfl, rfl⟩ ?_
 rintro _ _ _ ⟨j, oa, oc, o_, hj, hol, ho, ⟨_, rfl⟩, rfl, rfl⟩
 refine go ?_
 by_cases h_1 : ((j : Nat) : Int) < ((l.length : Nat) : Int)
 · have hlt : j < l.length := by omega
   refine go ?_
   obtain ⟨hr_2, hr_2b, -⟩ := sees_some hpre (by omega)
   refine go ?_
   refine jU (jj (vs := (xc (l.getD j x0))) hpre nM rfl kT kQ (flat_take encX_len x0 l j (by omega)) rfl (by decide)) ?_
   refine jG xzc fun b_3 => ?_
   refine jD 0 (xc (l.getD j x0)) ?_
   refine go ?_
   refine jF rfl (JO.callV [] Tryz.call158 rfl (N_live1 (l.getD j x0)) rfl rfl (fun _ _ => trivial)) ?_
   rintro _ _ ⟨_, ⟨rfl, rfl⟩, rfl⟩
   refine go ?_
   rcases Bool.eq_false_or_eq_true (liveP (l.getD j x0).t) with h_4 | h_4
   · refine go ?_
     refine jF rfl (jR (ps := [(0, iv (l.getD j x0).t.id)]) (cur := #[iv (l.getD j x0).t.id]) kL kS kZ rfl (by kernel_rfl) (by decide) (by decide)) ?_
     rintro _ _ ⟨a_5, rfl, rfl⟩
     refine jF rfl (jX 2 (q := 1) (news := ([(l.getD j x0).t.id] : List Int).map (Value.int .i64)) (n' := (o_ ++ ([(l.getD j x0).t.id] : List Int)).length) (cs' := (o_ ++ ([(l.getD j x0).t.id] : List Int)).map (Value.int .i64)) rfl kL kL kl rfl (by' := 8) rfl rfl rfl rfl rfl (fun w hw => Src.sees (hw.see (i := 0) rfl) (oneI _)) (by (try simp only [LE]); omega) (by (try simp only [LE]); omega) (by simp only [List.length_append, List.length_take, List.length_drop, List.length_cons, List.length_nil] <;> first | rfl | omega) (by simp only [List.map_append])) ?_
     rintro _ _ ⟨a_6, c_7, rfl, rfl⟩
     refine go ?_
     exact jP [2] ⟨j + 1, a_6, c_7, (o_ ++ ([(l.getD j x0).t.id] : List Int)), by omega, (by (try simp only [List.length_append, List.length_cons, List.length_nil]); omega), (idsT_on hlt ho h_4), EL.go, rfl, rfl⟩
   refine go ?_
   exact jP [1] ⟨j + 1, oa, oc, o_, by omega, (by (try simp only [List.length_append, List.length_cons, List.length_nil]); omega), (idsT_off hlt ho h_4), EL.go, rfl, rfl⟩
 refine go ?_
 refine jE (.inl rfl) rfl (jC (v := .slice oa o_.length oc) rfl) (List.Sublist.refl _) ?_
 have he : o_ = idsT liveP (l.map TX.t) := idsT_all ho (by omega)
 exact ⟨oa, oc, by rw [he], by rw [he] <;> rfl⟩

set_option maxRecDepth 4000 in
theorem C_idsClash (a : Option Addr) (c : Nat) (l : List TX) (hn : l.length ≤ 1000000000) (hz : okL2 l) (kb : Nat) (but : Int) (tb : Nat) (ta ua : Option Addr) (tc uc : Nat) (r u : List Str) (hr : okS r) (hu : okS u) :
   Ct Tryz.prog 156 [.slice a l.length c, .func (.func 157) #[] #[.pointer (some ⟨kb, 0, none⟩), .pointer (some ⟨tb, 0, none⟩)]] [bk kb 3 [.int .i64 but], bk tb 32 [.slice ta r.length tc, .slice ua u.length uc]] (fun w => (SeesA w (rdsXS a c l) ∧ apR (rdsXS a c l) (idsOf [bk kb 3 [.int .i64 but], bk tb 32 [.slice ta r.length tc, .slice ua u.length uc]])) ∧ (Sees w (.slice ta r.length tc) 1 r.length (r.map str) ∧ (∀ b, (Value.slice ta r.length tc).ownBlock = some b → b ∉ idsOf [bk kb 3 [.int .i64 but], bk tb 32 [.slice ta r.length tc, .slice ua u.length uc]])) ∧ (Sees w (.slice ua u.length uc) 1 u.length (u.map str) ∧ (∀ b, (Value.slice ua u.length uc).ownBlock = some b → b ∉ idsOf [bk kb 3 [.int .i64 but], bk tb 32 [.slice ta r.length tc, .slice ua u.length uc]]))) (fun v A' => ∃ a' c', v = .slice a' (idsT (clashP r u but) (l.map TX.t)).length c' ∧ A' = [rI a' c' (idsT (clashP r u but) (l.map TX.t)), bk kb 3 [.int .i64 but], bk tb 32 [.slice ta r.length tc, .slice ua u.length uc]]) := by
 refine Ct.intro Tryz.func156 rfl Tryz.ntmps156 (lb rfl) fun w0 hpre => ?_
 have hs0 : Sees w0 (.slice a l.length c) 10 l.length (l.flatMap encX) := hpre.1.1.head
 refine go ?_
 refine JC.nilRow 3 1 <| jL (fun k_ e_ L_ => ∃ j : Nat, ∃ oa : Option Addr, ∃ oc : Nat, ∃ o_ : List Int, (j ≤ l.length) ∧ (o_.length ≤ j) ∧ (o_ = idsT (clashP r u but) ((l.take j).map TX.t)) ∧ EL e_ [(1, .func (.func 157) #[] #[.pointer (some ⟨kb, 0, none⟩), .pointer (some ⟨tb, 0, none⟩)]), (4, .slice none 0 0), (5, .slice oa o_.length oc), (8, .slice a l.length c), (9, nv l.length), (10, nv j)] ∧ L_ = [rI oa oc o_, bk kb 3 [iv but], bk tb 32 [.slice ta r.length tc, .slice ua u.length uc]] ∧ k_ = l.length - j) _ ⟨0, none, 0, ([] : List Int), by omega, (Nat.le_refl _), rfl, EL.go, rfl, rfl⟩ ?_
 rintro _ _ _ ⟨j, oa, oc, o_, hj, hol, ho, ⟨_, rfl⟩, rfl, rfl⟩
 refine go ?_
 by_cases h_1 : ((j : Nat) : Int) < ((l.length : Nat) : Int)
 · have hlt : j < l.length := by omega
   refine go ?_
   obtain ⟨hr_2, hr_2b, -⟩ := sees_some hs0 (by omega)
   refine go ?_
   refine jU (jj (vs := (xc (l.getD j x0))) hs0 hpre.1.2.head rfl kT kQ (flat_take encX_len x0 l j (by omega)) rfl (by decide)) ?_
   refine jG xzc fun b_3 => ?_
   refine jD 0 (xc (l.getD j x0)) ?_
   refine go ?_
   refine jF rfl (JO.callV [2, 2] Tryz.call157 rfl (N_clash1 (l.getD j x0) (hz j hlt) kb but tb ta ua tc uc r u hr hu) rfl rfl (fun w hw => ⟨⟨hw.seeOutA (SeesA.elem hpre.1.1.tail x0 hlt) (apR.elem hpre.1.2.tail hlt), apR.elem hpre.1.2.tail hlt⟩, ⟨hw.seeOut_ hpre.2.1.1 hpre.2.1.2, hpre.2.1.2⟩, hw.seeOut_ hpre.2.2.1 hpre.2.2.2, hpre.2.2.2⟩)) ?_
   rintro _ _ ⟨_, ⟨rfl, rfl⟩, rfl⟩
   refine go ?_
   rcases Bool.eq_false_or_eq_true (clashP r u but (l.getD j x0).t) with h_4 | h_4
   · refine go ?_
     refine jF rfl (jR (ps := [(0, iv (l.getD j x0).t.id)]) (cur := #[iv (l.getD j x0).t.id]) kL kS kZ rfl (by kernel_rfl) (by decide) (by decide)) ?_
     rintro _ _ ⟨a_5, rfl, rfl⟩
     refine jF rfl (jX 4 (q := 1) (news := ([(l.getD j x0).t.id] : List Int).map (Value.int .i64)) (n' := (o_ ++ ([(l.getD j x0).t.id] : List Int)).length) (cs' := (o_ ++ ([(l.getD j x0).t.id] : List Int)).map (Value.int .i64)) rfl kL kL kl rfl (by' := 8) rfl rfl rfl rfl rfl (fun w hw => Src.sees (hw.see (i := 0) rfl) (oneI _)) (by (try simp only [LE]); omega) (by (try simp only [LE]); omega) (by simp only [List.length_append, List.length_take, List.length_drop, List.length_cons, List.length_nil] <;> first | rfl | omega) (by simp only [List.map_append])) ?_
     rintro _ _ ⟨a_6, c_7, rfl, rfl⟩
     refine go ?_
     exact jP [4, 1, 1] ⟨j + 1, a_6, c_7, (o_ ++ ([(l.getD j x0).t.id] : List Int)), by omega, (by (try simp only [List.length_append, List.length_cons, List.length_nil]); omega), (idsT_on hlt ho h_4), EL.go, rfl, rfl⟩
   refine go ?_
   exact jP [3, 0, 0] ⟨j + 1, oa, oc, o_, by omega, (by (try simp only [List.length_append, List.length_cons, List.length_nil]); omega), (idsT_off hlt ho h_4), EL.go, rfl, rfl⟩
 refine go ?_
 refine jE (.inl rfl) rfl (jC (v := .slice oa o_.length oc) rfl) (List.Sublist.refl _) ?_
 have he : o_ = idsT (clashP r u but) (l.map TX.t) := idsT_all ho (by omega)
 exact ⟨oa, oc, by rw [he], by rw [he] <;> rfl⟩

theorem C_iLiveIn (a : Option Addr) (c : Nat) (l : List TX) (hn : l.length ≤ 1000000000) :
   Ct Tryz.prog 71 [.slice a l.length c] [] (fun w => Sees w (.slice a l.length c) 10 l.length (l.flatMap encX)) (fun v A' => ∃ a' c', v = .slice a' (idsT liveP (l.map TX.t)).length c' ∧ A' = [rI a' c' (idsT liveP (l.map TX.t))]) := by
 refine Ct.intro Tryz.func71 rfl Tryz.ntmps71 (lb rfl) fun w0 hpre => ?_
 refine go ?_
 refine jA [] (C_idsLive a c l hn) (hpre := fun w hw => hw.seeOut_ hpre nM) ?_
 rintro _ _ ⟨a_1, c_2, rfl, rfl⟩
 have hil_3 : (idsT liveP (l.map TX.t)).length ≤ l.length := by have h_ := idsT_len liveP (l.map TX.t); rwa [List.length_map] at h_
 refine go ?_
 refine jE (.inl rfl) rfl (jC (v := .slice a_1 (idsT liveP (l.map TX.t)).length c_2) rfl) (List.Sublist.refl _) ?_
 exact ⟨a_1, c_2, rfl, rfl⟩

set_option maxRecDepth 4000 in
theorem C_sLiveIn (a : Option Addr) (c : Nat) (l : List TX) (hn : l.length ≤ 1000000000) :
   Ct Tryz.prog 72 [.slice a l.length c] [] (fun w => Sees w (.slice a l.length c) 10 l.length (l.flatMap encX)) (fun v A' => ∃ a' c', v = .slice a' (idsT liveP (l.map TX.t)).length c' ∧ A' = [rI a' c' (idsT liveP (l.map TX.t))]) := by
 refine Ct.intro Tryz.func72 rfl Tryz.ntmps72 (lb rfl) fun w0 hpre => ?_
 refine go ?_
 refine jF rfl (jR (ps := []) (cur := #[]) kL kS kZ rfl (by kernel_rfl) (by decide) (by decide)) ?_
 rintro _ _ ⟨a_1, rfl, rfl⟩
 refine go ?_
 refine jL (fun k_ e_ L_ => ∃ j : Nat, ∃ oa : Option Addr, ∃ oc : Nat, ∃ o_ : List Int, (j ≤ l.length) ∧ (o_.length ≤ j) ∧ (o_ = idsT liveP ((l.take j).map TX.t)) ∧ EL e_ [(0, .slice a l.length c), (2, .slice none 0 0), (3, .slice oa o_.length oc), (4, nv j)] ∧ L_ = [rI oa oc o_] ∧ k_ = l.length - j) _ ⟨0, a_1, 0, ([] : List Int), by omega, (Nat.le_refl _), rfl, EL.go, rfl, rfl⟩ ?_
 rintro _ _ _ ⟨j, oa, oc, o_, hj, hol, ho, ⟨_, rfl⟩, rfl, rfl⟩
 refine go ?_
 by_cases h_2 : ((j : Nat) : Int) < ((l.length : Nat) : Int)
 · have hlt : j < l.length := by omega
   refine go ?_
   obtain ⟨hr_3, hr_3b, -⟩ := sees_some hpre (by omega)
   refine go ?_
   refine jU (jY (v := iv (l.getD j x0).t.state) hpre nM rfl kR (flat_at encX_len x0 l j 9 (by omega) (by decide))) ?_
   refine go ?_
   by_cases h_4 : (l.getD j x0).t.state = 1
   · refine go ?_
     refine jU (jY (v := iv (l.getD j x0).t.id) hpre nM rfl kR (flat_at encX_len x0 l j 0 (by omega) (by decide))) ?_
     refine jF rfl (jR (ps := [(0, iv (l.getD j x0).t.id)]) (cur := #[iv (l.getD j x0).t.id]) kL kS kZ rfl (by kernel_rfl) (by decide) (by decide)) ?_
     rintro _ _ ⟨a_5, rfl, rfl⟩
     refine jF rfl (jX 1 (q := 1) (news := ([(l.getD j x0).t.id] : List Int).map (Value.int .i64)) (n' := (o_ ++ ([(l.getD j x0).t.id] : List Int)).length) (cs' := (o_ ++ ([(l.getD j x0).t.id] : List Int)).map (Value.int .i64)) rfl kL kL kl rfl (by' := 8) rfl rfl rfl rfl rfl (fun w hw => Src.sees (hw.see (i := 0) rfl) (oneI _)) (by (try simp only [LE]); omega) (by (try simp only [LE]); omega) (by simp only [List.length_append, List.length_take, List.length_drop, List.length_cons, List.length_nil] <;> first | rfl | omega) (by simp only [List.map_append])) ?_
     rintro _ _ ⟨a_6, c_7, rfl, rfl⟩
     refine go ?_
     exact jP [1] ⟨j + 1, a_6, c_7, (o_ ++ ([(l.getD j x0).t.id] : List Int)), by omega, (by (try simp only [List.length_append, List.length_cons, List.length_nil]); omega), (idsT_on hlt ho (dT h_4)), EL.go, rfl, rfl⟩
   refine go ?_
   exact jP [0] ⟨j + 1, oa, oc, o_, by omega, (by (try simp only [List.length_append, List.length_cons, List.length_nil]); omega), (idsT_off hlt ho (dF h_4)), EL.go, rfl, rfl⟩
 refine go ?_
 refine jE (.inl rfl) rfl (jC (v := .slice oa o_.length oc) rfl) (List.Sublist.refl _) ?_
 have he : o_ = idsT liveP (l.map TX.t) := idsT_all ho (by omega)
 exact ⟨oa, oc, by rw [he], by rw [he] <;> rfl⟩

set_option maxRecDepth 4000 in
theorem C_iClashes (a : Option Addr) (c : Nat) (l : List TX) (hn : l.length ≤ 1000000000) (hz : okL2 l) (but : Int) (ta ua : Option Addr) (tc uc : Nat) (r u : List Str) (hr : okS r) (hu : okS u) :
   Ct Tryz.prog 67 [.slice a l.length c, .agg #[.slice ta r.length tc, .slice ua u.length uc], .int .i64 but] [] (fun w => SeesA w (rdsXS a c l) ∧ Sees w (.slice ta r.length tc) 1 r.length (r.map str) ∧ Sees w (.slice ua u.length uc) 1 u.length (u.map str)) (fun v A' => ∃ a' c', v = .slice a' (idsT (clashP r u but) (l.map TX.t)).length c' ∧ A' = [rI a' c' (idsT (clashP r u but) (l.map TX.t))]) := by
 refine Ct.intro Tryz.func67 rfl Tryz.ntmps67 (lb rfl) fun w0 hpre => ?_
 refine go ?_
 refine jM [.slice ta r.length tc, .slice ua u.length uc] fun b_1 => ?_
 refine jM [iv but] fun b_2 => ?_
 refine go ?_
 refine jK (PO.makeFunc (fv := []) (cv := [.pointer (some ⟨b_2, 0, none⟩), .pointer (some ⟨b_1, 0, none⟩)]) rfl rfl) ?_
 refine jA [0, 0] (C_idsClash a c l hn hz b_2 but b_1 ta ua tc uc r u hr hu) (hpre := fun w hw => ⟨⟨hw.seeOutA hpre.1 nMA, apR.two (St.apartFA hw 0 hpre.1 rfl) (St.apartFA hw 1 hpre.1 rfl)⟩, ⟨hw.seeOut_ hpre.2.1 nM, ap2 (hw.apartF 0 hpre.2.1 rfl List.not_mem_nil) (hw.apartF 1 hpre.2.1 rfl List.not_mem_nil)⟩, ⟨hw.seeOut_ hpre.2.2 nM, ap2 (hw.apartF 0 hpre.2.2 rfl List.not_mem_nil) (hw.apartF 1 hpre.2.2 rfl List.not_mem_nil)⟩⟩) ?_
 rintro _ _ ⟨a_3, c_4, rfl, rfl⟩
 have hil_5 : (idsT (clashP r u but) (l.map TX.t)).length ≤ l.length := by have h_ := idsT_len (clashP r u but) (l.map TX.t); rwa [List.length_map] at h_
 refine go ?_
 exact jJ [0] ⟨a_3, c_4, rfl, rfl⟩

set_option maxRecDepth 4000 in
theorem C_sClashes (a : Option Addr) (c : Nat) (l : List TX) (hn : l.length ≤ 1000000000) (hz : okL2 l) (but : Int) (ta ua : Option Addr) (tc uc : Nat) (r u : List Str) (hr : okS r) (hu : okS u) :
   Ct Tryz.prog 69 [.slice a l.length c, .agg #[.slice ta r.length tc, .slice ua u.length uc], .int .i64 but] [] (fun w => SeesA w (rdsXS a c l) ∧ Sees w (.slice ta r.length tc) 1 r.length (r.map str) ∧ Sees w (.slice ua u.length uc) 1 u.length (u.map str)) (fun v A' => ∃ a' c', v = .slice a' (idsT (clashP r u but) (l.map TX.t)).length c' ∧ A' = [rI a' c' (idsT (clashP r u but) (l.map TX.t))]) := by
 refine Ct.intro Tryz.func69 rfl Tryz.ntmps69 (lb rfl) fun w0 hpre => ?_
 have hs_1 : Sees w0 (.slice a l.length c) 10 l.length (l.flatMap encX) := (hpre.1).head
 have hi_2 : SeesA w0 (l.flatMap rdsX) := (hpre.1).tail
 refine go ?_
 refine jM [.slice ta r.length tc, .slice ua u.length uc] fun b_3 => ?_
 refine go ?_
 refine jF rfl (jR (ps := []) (cur := #[]) kL kS kZ rfl (by kernel_rfl) (by decide) (by decide)) ?_
 rintro _ _ ⟨a_4, rfl, rfl⟩
 refine go ?_
 refine jL (fun k_ e_ L_ => ∃ j : Nat, ∃ oa : Option Addr, ∃ oc : Nat, ∃ o_ : List Int, (j ≤ l.length) ∧ (o_.length ≤ j) ∧ (o_ = idsT (clashP r u but) ((l.take j).map TX.t)) ∧ EL e_ [(0, .slice a l.length c), (2, iv but), (4, .pointer (some ⟨b_3, 0, none⟩)), (6, .slice none 0 0), (7, .slice oa o_.length oc), (8, nv j)] ∧ L_ = [rI oa oc o_, bk b_3 32 [.slice ta r.length tc, .slice ua u.length uc]] ∧ k_ = l.length - j) _ ⟨0, a_4, 0, ([] : List Int), by omega, (Nat.le_refl _), rfl, EL.go, rfl, rfl⟩ ?_
 rintro _ _ _ ⟨j, oa, oc, o_, hj, hol, ho, ⟨_, rfl⟩, rfl, rfl⟩
 refine go ?_
 by_cases h_5 : ((j : Nat) : Int) < ((l.length : Nat) : Int)
 · have hlt : j < l.length := by omega
   refine go ?_
   refine jH [0, 0] 1000 ?_
   refine go ?_
   obtain ⟨hr_6, hr_6b, -⟩ := sees_some hs_1 (by omega)
   refine go ?_
   have hi_7 := SeesA.elem hi_2 x0 (show j < l.length by omega)
   obtain ⟨hs_8, hs_9, hs_10, hs_11, hs_12⟩ := seesX hi_7
   refine jk 4 rfl (jY (v := iv (l.getD j x0).t.state) hs_1 nM rfl kR (flat_at encX_len x0 l j 9 (by omega) (by decide))) ?_
   refine go ?_
   by_cases h_13 : (l.getD j x0).t.state = 1
   · refine go ?_
     refine kG 11 rfl (by kernel_rfl) (NP.th (NP.bl (NP.th (NP.th (NP.bl (NP.th NP.body)))))) (by kernel_rfl) (by kernel_rfl) (by kernel_rfl) rfl rfl rfl (cB (dT h_13)) (jY (v := iv (l.getD j x0).t.id) hs_1 nM rfl kR (flat_at encX_len x0 l j 0 (by omega) (by decide))) ?_
     refine go ?_
     by_cases h_14 : (l.getD j x0).t.id = but
     · refine go ?_
       exact jP [0, 0] ⟨j + 1, oa, oc, o_, by omega, (by (try simp only [List.length_append, List.length_cons, List.length_nil]); omega), (idsT_off hlt ho (by first | exact clashP_off1 (by assumption) | exact clashP_off2 (by assumption) | exact clashP_off3 (by assumption))), EL.go, rfl, rfl⟩
     refine go ?_
     refine kG 20 rfl (by kernel_rfl) (NP.th (NP.bl (NP.th (NP.th (NP.bl (NP.th NP.body)))))) (by kernel_rfl) (by kernel_rfl) (by kernel_rfl) rfl rfl rfl (cB (cN (dF h_14))) (jj (vs := [.slice (l.getD j x0).x.a2 (l.getD j x0).t.rd.length (l.getD j x0).x.c2, .slice (l.getD j x0).x.a3 (l.getD j x0).t.wr.length (l.getD j x0).x.c3]) hs_1 nM rfl kt ku (flat_part encX_len x0 l j 6 2 (by omega) (by decide)) rfl (by decide)) ?_
     refine go ?_
     refine jB (i := 22) ?_
     refine jn rfl rfl rfl rfl (cB (cN (dF h_14))) (jO [] Tryz.call61 rfl (Y_specClash (l.getD j x0).x.a2 (l.getD j x0).x.a3 ta ua (l.getD j x0).x.c2 (l.getD j x0).x.c3 tc uc (l.getD j x0).t.rd (l.getD j x0).t.wr r u (hz j (by omega)).1 (hz j (by omega)).2 hr hu) rfl (fun w hw => ⟨hw.seeOut_ hs_10 nM, hw.seeOut_ hs_11 nM, hw.seeOut_ hpre.2.1 nM, hw.seeOut_ hpre.2.2 nM⟩)) ?_
     rintro _ _ ⟨_, ⟨rfl, rfl⟩, rfl⟩
     refine ⟨all_go, ?_⟩
     refine go ?_
     rcases Bool.eq_false_or_eq_true (clashT (l.getD j x0).t.rd (l.getD j x0).t.wr r u) with h_15 | h_15
     · refine go ?_
       refine jU (jY (v := iv (l.getD j x0).t.id) hs_1 nM rfl kR (flat_at encX_len x0 l j 0 (by omega) (by decide))) ?_
       refine jF rfl (jR (ps := [(0, iv (l.getD j x0).t.id)]) (cur := #[iv (l.getD j x0).t.id]) kL kS kZ rfl (by kernel_rfl) (by decide) (by decide)) ?_
       rintro _ _ ⟨a_16, rfl, rfl⟩
       refine jF rfl (jX 1 (q := 1) (news := ([(l.getD j x0).t.id] : List Int).map (Value.int .i64)) (n' := (o_ ++ ([(l.getD j x0).t.id] : List Int)).length) (cs' := (o_ ++ ([(l.getD j x0).t.id] : List Int)).map (Value.int .i64)) rfl kL kL kl rfl (by' := 8) rfl rfl rfl rfl rfl (fun w hw => Src.sees (hw.see (i := 0) rfl) (oneI _)) (by (try simp only [LE]); omega) (by (try simp only [LE]); omega) (by simp only [List.length_append, List.length_take, List.length_drop, List.length_cons, List.length_nil] <;> first | rfl | omega) (by simp only [List.map_append])) ?_
       rintro _ _ ⟨a_17, c_18, rfl, rfl⟩
       refine go ?_
       exact jP [1, 1] ⟨j + 1, a_17, c_18, (o_ ++ ([(l.getD j x0).t.id] : List Int)), by omega, (by (try simp only [List.length_append, List.length_cons, List.length_nil]); omega), (idsT_on hlt ho (clashP_on (by assumption) (by assumption) (by assumption))), EL.go, rfl, rfl⟩
     refine go ?_
     exact jP [0, 0] ⟨j + 1, oa, oc, o_, by omega, (by (try simp only [List.length_append, List.length_cons, List.length_nil]); omega), (idsT_off hlt ho (by first | exact clashP_off1 (by assumption) | exact clashP_off2 (by assumption) | exact clashP_off3 (by assumption))), EL.go, rfl, rfl⟩
   refine go ?_
   exact jP [0, 0] ⟨j + 1, oa, oc, o_, by omega, (by (try simp only [List.length_append, List.length_cons, List.length_nil]); omega), (idsT_off hlt ho (by first | exact clashP_off1 (by assumption) | exact clashP_off2 (by assumption) | exact clashP_off3 (by assumption))), EL.go, rfl, rfl⟩
 refine go ?_
 refine jE (.inl rfl) rfl (jC (v := .slice oa o_.length oc) rfl) (tS 1 _) ?_
 have he : o_ = idsT (clashP r u but) (l.map TX.t) := idsT_all ho (by omega)
 exact ⟨oa, oc, by rw [he], by rw [he] <;> rfl⟩

theorem C_ixI (a : Option Addr) (c : Nat) (s : List Int) (hn : s.length ≤ 1000000000) (x : Int) :
   Ct Tryz.prog 268 [.slice a s.length c, .int .i64 x] [] (fun w => Sees w (.slice a s.length c) 1 s.length (s.map (Value.int .i64))) (fun v A' => v = .int .i64 (idxI (fun q => decide (x = q)) s) ∧ A' = []) := by
 refine Ct.intro Tryz.func268 rfl Tryz.ntmps268 (lb rfl) fun w0 hpre => ?_
 have hs_a : Sees w0 _ _ _ _ := hpre
 refine go ?_
 refine jL (fun k_ e_ L_ => ∃ j : Nat, (j ≤ s.length) ∧ (∀ i, i < j → decide (x = s.getD i 0) = false) ∧ EL e_ [(0, .slice a s.length c), (1, iv x), (7, nv s.length), (8, nv j)] ∧ L_ = [] ∧ k_ = s.length - j) _ ⟨0, by omega, (fun i hi => absurd hi (Nat.not_lt_zero i)), EL.go, rfl, rfl⟩ ?_
 rintro _ _ _ ⟨j, hj, hN, ⟨_, rfl⟩, rfl, rfl⟩
 refine go ?_
 by_cases h_1 : ((j : Nat) : Int) < ((s.length : Nat) : Int)
 · have hlt : j < s.length := by omega
   refine go ?_
   obtain ⟨hr_2, hr_2b, -⟩ := sees_some hs_a (by omega)
   refine go ?_
   refine jU (jY (v := iv (s.getD j 0)) hs_a nM rfl kR (atI (by omega))) ?_
   refine go ?_
   by_cases h_3 : x = (s.getD j 0)
   · have heq := h_3
     refine go ?_
     refine jE (.inl rfl) rfl (jC (v := nv j) rfl) (List.nil_sublist _) ?_
     refine ⟨?_, rfl⟩
     rw [idxI_found 0 hlt hN (dT heq)]
   have hne := h_3
   refine go ?_
   refine jV (s.length - (j + 1)) (by omega) ⟨j + 1, by omega, (fun i hi => if h : i = j then h ▸ (dF hne) else hN i (by omega)), EL.go, rfl, rfl⟩
 refine go ?_
 refine jE (.inl rfl) rfl (jC (v := iv (-1)) rfl) (List.nil_sublist _) ?_
 refine ⟨?_, rfl⟩
 rw [idxI_none 0 (by omega) hN]

theorem C_ctI (a : Option Addr) (c : Nat) (s : List Int) (hn : s.length ≤ 1000000000) (x : Int) :
   Ct Tryz.prog 160 [.slice a s.length c, .int .i64 x] [] (fun w => Sees w (.slice a s.length c) 1 s.length (s.map (Value.int .i64))) (fun v A' => v = .bool (hasI s x) ∧ A' = []) := by
 refine Ct.intro Tryz.func160 rfl Tryz.ntmps160 (lb rfl) fun w0 hpre => ?_
 have hs_a : Sees w0 _ _ _ _ := hpre
 refine go ?_
 refine jN [] (C_ixI a c s hn x) (hpre := fun w hw => hw.seeOut_ hs_a nM) ?_
 refine go ?_
 refine jE (.inl rfl) rfl (jC (v := .bool (decide (0 ≤ (idxI (fun q => decide (x = q)) s)))) rfl) (List.nil_sublist _) ?_
 exact ⟨cB idxI_any, rfl⟩

theorem C_l19Has (a : Option Addr) (c : Nat) (s : List Int) (hn : s.length ≤ 1000000000) (x : Int) :
   Ct Tryz.prog 164 [.slice a s.length c, .int .i64 x] [] (fun w => Sees w (.slice a s.length c) 1 s.length (s.map (Value.int .i64))) (fun v A' => v = .bool (hasI s x) ∧ A' = []) := by
 refine Ct.intro Tryz.func164 rfl Tryz.ntmps164 (lb rfl) fun w0 hpre => ?_
 have hs_a : Sees w0 _ _ _ _ := hpre
 refine go ?_
 refine jL (fun k_ e_ L_ => ∃ j : Nat, (j ≤ s.length) ∧ (∀ i, i < j → ¬ s.getD i 0 = x) ∧ EL e_ [(0, .slice a s.length c), (1, iv x), (5, nv j)] ∧ L_ = [] ∧ k_ = s.length - j) _ ⟨0, by omega, (fun i hi => absurd hi (Nat.not_lt_zero i)), EL.go, rfl, rfl⟩ ?_
 rintro _ _ _ ⟨j, hj, hN, ⟨_, rfl⟩, rfl, rfl⟩
 refine go ?_
 by_cases h_1 : ((j : Nat) : Int) < ((s.length : Nat) : Int)
 · have hlt : j < s.length := by omega
   refine go ?_
   obtain ⟨hr_2, hr_2b, -⟩ := sees_some hs_a (by omega)
   refine go ?_
   refine jU (jY (v := iv (s.getD j 0)) hs_a nM rfl kR (atI (by omega))) ?_
   refine go ?_
   by_cases h_3 : (s.getD j 0) = x
   · have heq := h_3
     refine go ?_
     refine jE (.inl rfl) rfl (jC (v := .bool true) rfl) (List.nil_sublist _) ?_
     exact ⟨cB (hasI_at hlt heq).symm, rfl⟩
   have hne := h_3
   refine go ?_
   refine jV (s.length - (j + 1)) (by omega) ⟨j + 1, by omega, (fun i hi => if h : i = j then h ▸ hne else hN i (by omega)), EL.go, rfl, rfl⟩
 refine go ?_
 refine jE (.inl rfl) rfl (jC (v := .bool false) rfl) (List.nil_sublist _) ?_
 exact ⟨cB (hasI_none (by omega) hN).symm, rfl⟩

set_option maxRecDepth 4000 in
theorem C_iDropped (a : Option Addr) (c : Nat) (l : List TX) (hn : l.length ≤ 1000000000) (hlim : ∀ q ∈ l, q.t.lim 1000000000) (ia : Option Addr) (ic : Nat) (ids : List Int) (hni : ids.length ≤ 1000000000) :
   Ct Tryz.prog 76 [.slice a l.length c, .slice ia ids.length ic] [] (fun w => SeesA w (rdsXS a c l) ∧ Sees w (.slice ia ids.length ic) 1 ids.length (ids.map (Value.int .i64))) (fun v A' => ∃ a' c' z, z.map TX.t = (l.map TX.t).map (TD.dropIf ids) ∧ v = .slice a' z.length c' ∧ A' = [.rows (rdsXS a' c' z)]) := by
 refine Ct.intro Tryz.func76 rfl Tryz.ntmps76 (lb rfl) fun w0 hpre => ?_
 have hs_1 : Sees w0 (.slice a l.length c) 10 l.length (l.flatMap encX) := (hpre.1).head
 have hi_2 : SeesA w0 (l.flatMap rdsX) := (hpre.1).tail
 refine go ?_
 refine jA [] (Z_impltxsCopy a c l (by omega) hlim) (hpre := fun w hw => SeesA.cons (hw.seeOut_ hs_1 nM) (hw.seeOutA hi_2 nMA)) ?_
 rintro _ _ ⟨a_3, c_4, y_5, hy_6, rfl, rfl⟩
 refine go ?_
 have hyl : y_5.length = l.length := by have h_ := congrArg List.length hy_6; simpa only [List.length_map] using h_
 refine JC.ghost (L' := [Res.row (.slice a_3 y_5.length c_4) 35 10 y_5.length (y_5.flatMap encX), Res.rows (y_5.flatMap rdsX)]) (fun w hw => hw.headR (r := ⟨.slice a_3 y_5.length c_4, 35, 10, y_5.length, y_5.flatMap encX⟩) (A := y_5.flatMap rdsX) 0 rfl) <| jL (fun k_ e_ L_ => ∃ j : Nat, ∃ v_ : List TX, (j ≤ y_5.length) ∧ (v_.length = y_5.length) ∧ (v_.map TX.t = mapTo (TD.dropIf ids) j (y_5.map TX.t)) ∧ EL e_ [(1, .slice ia ids.length ic), (4, .slice none 0 0), (5, .slice a_3 y_5.length c_4), (10, .slice a_3 y_5.length c_4), (11, nv y_5.length), (12, nv j)] ∧ L_ = [Res.row (.slice a_3 y_5.length c_4) 35 10 y_5.length (v_.flatMap encX), Res.rows (v_.flatMap rdsX)] ∧ k_ = y_5.length - j) _ ⟨0, y_5, by omega, rfl, rfl, EL.go, rfl, rfl⟩ ?_
 rintro _ _ _ ⟨j, v_, hj, hvl, hv, ⟨_, rfl⟩, rfl, rfl⟩
 refine go ?_
 by_cases h_7 : ((j : Nat) : Int) < ((y_5.length : Nat) : Int)
 · have hl_ : j < l.length := by omega
   have hlt : j < v_.length := by omega
   have hly : j < y_5.length := by omega
   refine go ?_
   refine jo fun hst => ?_
   obtain ⟨hr_8, hr_8b, -⟩ := row_some 0 rfl (by omega) hst
   refine go ?_
   refine jU (LO.loadRK 0 (vs := (xc (v_.getD j x0))) rfl rfl kT kQ (flat_take encX_len x0 v_ j (by omega)) rfl (by decide)) ?_
   refine jG xzc fun b_9 => ?_
   refine go ?_
   refine jD 0 (xc (v_.getD j x0)) ?_
   refine go ?_
   by_cases h_10 : (v_.getD j x0).t.state = 1
   · refine go ?_
     refine jW rfl rfl rfl (cB (dT h_10)) (jO [] Tryz.call160 rfl (C_ctI ia ic ids (by omega) (v_.getD j x0).t.id) rfl (fun w hw => hw.seeOut_ hpre.2 nM)) ?_
     rintro _ _ ⟨_, ⟨rfl, rfl⟩, rfl⟩
     refine go ?_
     rcases Bool.eq_false_or_eq_true (hasI ids (v_.getD j x0).t.id) with h_11 | h_11
     · refine go ?_
       refine jF rfl (jx 1 (vs := [iv 3]) (cs' := (v_.set j (⟨(v_.getD j x0).x, ⟨(v_.getD j x0).t.id, (v_.getD j x0).t.age, (v_.getD j x0).t.proc, (v_.getD j x0).t.began, (v_.getD j x0).t.calls, (v_.getD j x0).t.ans, (v_.getD j x0).t.rd, (v_.getD j x0).t.wr, (v_.getD j x0).t.marks, 3⟩⟩ : TX)).flatMap encX) rfl rfl rfl rfl kS rfl rfl (by decide) (by rw [flat_length encX_len]; omega) (flat_set1 encX_len x0 (f := 9) (y := (⟨(v_.getD j x0).x, ⟨(v_.getD j x0).t.id, (v_.getD j x0).t.age, (v_.getD j x0).t.proc, (v_.getD j x0).t.began, (v_.getD j x0).t.calls, (v_.getD j x0).t.ans, (v_.getD j x0).t.rd, (v_.getD j x0).t.wr, (v_.getD j x0).t.marks, 3⟩⟩ : TX)) (by omega) (by decide) rfl)) ?_
       rintro _ _ rfl
       refine jb <| JQ.blockN <| jT <| jy ?_
       refine gQ ?_
       refine jb ?_
       refine jw (L' := [Res.rows ((v_.set j (⟨(v_.getD j x0).x, ⟨(v_.getD j x0).t.id, (v_.getD j x0).t.age, (v_.getD j x0).t.proc, (v_.getD j x0).t.began, (v_.getD j x0).t.calls, (v_.getD j x0).t.ans, (v_.getD j x0).t.rd, (v_.getD j x0).t.wr, (v_.getD j x0).t.marks, 3⟩⟩ : TX)).flatMap rdsX), bk b_9 35 (xc (v_.getD j x0)), Res.row (.slice a_3 y_5.length c_4) 35 10 y_5.length ((v_.set j (⟨(v_.getD j x0).x, ⟨(v_.getD j x0).t.id, (v_.getD j x0).t.age, (v_.getD j x0).t.proc, (v_.getD j x0).t.began, (v_.getD j x0).t.calls, (v_.getD j x0).t.ans, (v_.getD j x0).t.rd, (v_.getD j x0).t.wr, (v_.getD j x0).t.marks, 3⟩⟩ : TX)).flatMap encX)]) (fun w hw => hw.rowsEq 2 rfl (flatMap_sameX (by omega) rfl)) ?_
       exact jP [2, 0] ⟨j + 1, v_.set j (⟨(v_.getD j x0).x, ⟨(v_.getD j x0).t.id, (v_.getD j x0).t.age, (v_.getD j x0).t.proc, (v_.getD j x0).t.began, (v_.getD j x0).t.calls, (v_.getD j x0).t.ans, (v_.getD j x0).t.rd, (v_.getD j x0).t.wr, (v_.getD j x0).t.marks, 3⟩⟩ : TX), by omega, (by (try rw [List.length_set]); omega), (drop_on hly hv h_10 (hasI_iff.1 h_11)), EL.go, rfl, rfl⟩
     refine go ?_
     exact jP [1, 1] ⟨j + 1, v_, by omega, (by (try rw [List.length_set]); omega), (drop_off hly hv (dropN h_11)), EL.go, rfl, rfl⟩
   refine go ?_
   exact jP [1, 1] ⟨j + 1, v_, by omega, (by (try rw [List.length_set]); omega), (drop_off hly hv (fun q_ => h_10 q_.1)), EL.go, rfl, rfl⟩
 refine JC.condF (cB (dF h_7)) <| JC.exit <| JQ.thenExit <| JQ.thenExit <| JQ.blockE <| jT <| jc <| jy ?_
 refine gQ ?_
 refine jb <| jT <| jz ?_
 refine jw (L' := [Res.row (.slice a_3 v_.length c_4) 35 10 v_.length (v_.flatMap encX), Res.rows (v_.flatMap rdsX)]) (fun w hw => hw.eqL (by rw [← hvl] <;> rfl)) ?_
 refine jw (L' := [Res.rows (rdsXS a_3 c_4 v_)]) (fun w hw => hw.consR (r := ⟨.slice a_3 v_.length c_4, 35, 10, v_.length, v_.flatMap encX⟩) (A := v_.flatMap rdsX) [0, 0] rfl) ?_
 refine jE (.inl rfl) rfl (jC (v := .slice a_3 y_5.length c_4) rfl) (List.Sublist.refl _) ?_
 exact ⟨a_3, c_4, v_, by rw [drop_all hv (by omega), hy_6], by rw [hvl], rfl⟩

set_option maxRecDepth 4000 in
theorem C_sDropped (a : Option Addr) (c : Nat) (l : List TX) (hn : l.length ≤ 1000000000) (hlim : ∀ q ∈ l, q.t.lim 1000000000) (ia : Option Addr) (ic : Nat) (ids : List Int) (hni : ids.length ≤ 1000000000) :
   Ct Tryz.prog 82 [.slice a l.length c, .slice ia ids.length ic] [] (fun w => SeesA w (rdsXS a c l) ∧ Sees w (.slice ia ids.length ic) 1 ids.length (ids.map (Value.int .i64))) (fun v A' => ∃ a' c' z, z.map TX.t = (l.map TX.t).map (TD.dropIf ids) ∧ v = .slice a' z.length c' ∧ A' = [.rows (rdsXS a' c' z)]) := by
 refine Ct.intro Tryz.func82 rfl Tryz.ntmps82 (lb rfl) fun w0 hpre => ?_
 have hs_1 : Sees w0 (.slice a l.length c) 10 l.length (l.flatMap encX) := (hpre.1).head
 have hi_2 : SeesA w0 (l.flatMap rdsX) := (hpre.1).tail
 refine go ?_
 refine jA [] (Z_specl19Copy a c l (by omega) hlim) (hpre := fun w hw => SeesA.cons (hw.seeOut_ hs_1 nM) (hw.seeOutA hi_2 nMA)) ?_
 rintro _ _ ⟨a_3, c_4, y_5, hy_6, rfl, rfl⟩
 refine go ?_
 have hyl : y_5.length = l.length := by have h_ := congrArg List.length hy_6; simpa only [List.length_map] using h_
 refine JC.ghost (L' := [Res.row (.slice a_3 y_5.length c_4) 35 10 y_5.length (y_5.flatMap encX), Res.rows (y_5.flatMap rdsX)]) (fun w hw => hw.headR (r := ⟨.slice a_3 y_5.length c_4, 35, 10, y_5.length, y_5.flatMap encX⟩) (A := y_5.flatMap rdsX) 0 rfl) <| jL (fun k_ e_ L_ => ∃ j : Nat, ∃ v_ : List TX, (j ≤ y_5.length) ∧ (v_.length = y_5.length) ∧ (v_.map TX.t = mapTo (TD.dropIf ids) j (y_5.map TX.t)) ∧ EL e_ [(1, .slice ia ids.length ic), (4, .slice none 0 0), (5, .slice a_3 y_5.length c_4), (6, nv j)] ∧ L_ = [Res.row (.slice a_3 y_5.length c_4) 35 10 y_5.length (v_.flatMap encX), Res.rows (v_.flatMap rdsX)] ∧ k_ = y_5.length - j) _ ⟨0, y_5, by omega, rfl, rfl, EL.go, rfl, rfl⟩ ?_
 rintro _ _ _ ⟨j, v_, hj, hvl, hv, ⟨_, rfl⟩, rfl, rfl⟩
 refine go ?_
 by_cases h_7 : ((j : Nat) : Int) < ((y_5.length : Nat) : Int)
 · have hl_ : j < l.length := by omega
   have hlt : j < v_.length := by omega
   have hly : j < y_5.length := by omega
   refine go ?_
   refine jo fun hst => ?_
   obtain ⟨hr_8, hr_8b, -⟩ := row_some 0 rfl (by omega) hst
   refine go ?_
   refine jU (jr 0 (v := iv (v_.getD j x0).t.state) rfl rfl kR (flat_at encX_len x0 v_ j 9 (by omega) (by decide))) ?_
   refine go ?_
   by_cases h_9 : (v_.getD j x0).t.state = 1
   · refine go ?_
     refine jW rfl rfl rfl (cB (dT h_9)) (jm (jr 0 (v := iv (v_.getD j x0).t.id) rfl rfl kR (flat_at encX_len x0 v_ j 0 (by omega) (by decide)))) ?_
     rintro _ _ ⟨rfl, rfl⟩
     refine jW rfl rfl rfl (cB (dT h_9)) (jO [] Tryz.call164 rfl (C_l19Has ia ic ids (by omega) (v_.getD j x0).t.id) rfl (fun w hw => hw.seeOut_ hpre.2 nM)) ?_
     rintro _ _ ⟨_, ⟨rfl, rfl⟩, rfl⟩
     refine go ?_
     rcases Bool.eq_false_or_eq_true (hasI ids (v_.getD j x0).t.id) with h_10 | h_10
     · refine go ?_
       refine jF rfl (jx 0 (vs := [iv 3]) (cs' := (v_.set j (⟨(v_.getD j x0).x, ⟨(v_.getD j x0).t.id, (v_.getD j x0).t.age, (v_.getD j x0).t.proc, (v_.getD j x0).t.began, (v_.getD j x0).t.calls, (v_.getD j x0).t.ans, (v_.getD j x0).t.rd, (v_.getD j x0).t.wr, (v_.getD j x0).t.marks, 3⟩⟩ : TX)).flatMap encX) rfl rfl rfl rfl kS rfl rfl (by decide) (by rw [flat_length encX_len]; omega) (flat_set1 encX_len x0 (f := 9) (y := (⟨(v_.getD j x0).x, ⟨(v_.getD j x0).t.id, (v_.getD j x0).t.age, (v_.getD j x0).t.proc, (v_.getD j x0).t.began, (v_.getD j x0).t.calls, (v_.getD j x0).t.ans, (v_.getD j x0).t.rd, (v_.getD j x0).t.wr, (v_.getD j x0).t.marks, 3⟩⟩ : TX)) (by omega) (by decide) rfl)) ?_
       rintro _ _ rfl
       refine jb <| JQ.blockN <| jT <| jy ?_
       refine gQ ?_
       refine jb ?_
       refine jw (L' := [Res.rows ((v_.set j (⟨(v_.getD j x0).x, ⟨(v_.getD j x0).t.id, (v_.getD j x0).t.age, (v_.getD j x0).t.proc, (v_.getD j x0).t.began, (v_.getD j x0).t.calls, (v_.getD j x0).t.ans, (v_.getD j x0).t.rd, (v_.getD j x0).t.wr, (v_.getD j x0).t.marks, 3⟩⟩ : TX)).flatMap rdsX), Res.row (.slice a_3 y_5.length c_4) 35 10 y_5.length ((v_.set j (⟨(v_.getD j x0).x, ⟨(v_.getD j x0).t.id, (v_.getD j x0).t.age, (v_.getD j x0).t.proc, (v_.getD j x0).t.began, (v_.getD j x0).t.calls, (v_.getD j x0).t.ans, (v_.getD j x0).t.rd, (v_.getD j x0).t.wr, (v_.getD j x0).t.marks, 3⟩⟩ : TX)).flatMap encX)]) (fun w hw => hw.rowsEq 1 rfl (flatMap_sameX (by omega) rfl)) ?_
       exact jP [1, 0] ⟨j + 1, v_.set j (⟨(v_.getD j x0).x, ⟨(v_.getD j x0).t.id, (v_.getD j x0).t.age, (v_.getD j x0).t.proc, (v_.getD j x0).t.began, (v_.getD j x0).t.calls, (v_.getD j x0).t.ans, (v_.getD j x0).t.rd, (v_.getD j x0).t.wr, (v_.getD j x0).t.marks, 3⟩⟩ : TX), by omega, (by (try rw [List.length_set]); omega), (drop_on hly hv h_9 (hasI_iff.1 h_10)), EL.go, rfl, rfl⟩
     refine go ?_
     exact jP [0, 0] ⟨j + 1, v_, by omega, (by (try rw [List.length_set]); omega), (drop_off hly hv (dropN h_10)), EL.go, rfl, rfl⟩
   refine go ?_
   exact jP [0, 0] ⟨j + 1, v_, by omega, (by (try rw [List.length_set]); omega), (drop_off hly hv (fun q_ => h_9 q_.1)), EL.go, rfl, rfl⟩
 refine JC.condF (cB (dF h_7)) <| JC.exit <| JQ.thenExit <| JQ.thenExit <| JQ.blockE <| jT <| jc <| jy ?_
 refine gQ ?_
 refine jb <| jT <| jz ?_
 refine jw (L' := [Res.row (.slice a_3 v_.length c_4) 35 10 v_.length (v_.flatMap encX), Res.rows (v_.flatMap rdsX)]) (fun w hw => hw.eqL (by rw [← hvl] <;> rfl)) ?_
 refine jw (L' := [Res.rows (rdsXS a_3 c_4 v_)]) (fun w hw => hw.consR (r := ⟨.slice a_3 v_.length c_4, 35, 10, v_.length, v_.flatMap encX⟩) (A := v_.flatMap rdsX) [0, 0] rfl) ?_
 refine jE (.inl rfl) rfl (jC (v := .slice a_3 y_5.length c_4) rfl) (List.Sublist.refl _) ?_
 exact ⟨a_3, c_4, v_, by rw [drop_all hv (by omega), hy_6], by rw [hvl], rfl⟩

set_option maxRecDepth 4000 in
theorem Y_iWould (p : TX) (hl : p.t.lim 500000000) (sa : Option Addr) (sc : Nat) (s : List Cell) (n : Nat) (hO : okC' n 1048576 s) (hn : n ≤ 28000000) (hc : okT p.t) (hg : gro n p.t.calls.length ≤ 28000000) (hgT : groT n 0 p.t.calls.length ≤ 1000000000) (c : CL) (hcc : c.ok 1048576) :
   Ct Tryz.prog 79 [.slice sa s.length sc, .agg #[.int .i64 p.t.id, .int .i64 p.t.age, .int .i64 p.t.proc, .int .i64 p.t.began, .slice p.x.a0 p.t.calls.length p.x.c0, .slice p.x.a1 p.t.ans.length p.x.c1, .slice p.x.a2 p.t.rd.length p.x.c2, .slice p.x.a3 p.t.wr.length p.x.c3, .slice p.x.a4 p.t.marks.length p.x.c4, .int .i64 p.t.state], .agg #[.int .i64 c.kind, str c.name, str c.to_, .int .i64 c.a, .int .i64 c.b, str c.text]] [] (fun w => Sees w (.slice sa s.length sc) 2 s.length (s.flatMap encC) ∧ SeesA w (rdsX p) ∧ HexOk w) (fun v A' => ∃ (x' : MA) (m' : MS) (a' : AN), (⟨viewA s p.t, [], []⟩ : MS).doCall p.t.proc c = (m', a') ∧ (m'.r.length ≤ 1000000000 ∧ m'.w.length ≤ 1000000000) ∧ v = .agg #[.slice x'.a1 m'.r.length x'.c1, .slice x'.a2 m'.w.length x'.c2] ∧ A' = [rS x'.a1 x'.c1 m'.r, rS x'.a2 x'.c2 m'.w]) := by
 have hlv := hl
 refine Ct.introL Tryz.func79 rfl Tryz.ntmps79 (lb rfl) fun w0 hpre hlow => ?_
 have hs_s : Sees w0 _ _ _ _ := hpre.1
 have hl := hl.mono (show 500000000 ≤ 1000000000 by decide)
 obtain ⟨hs_1, hs_2, hs_3, hs_4, hs_5⟩ := seesX hpre.2.1
 have hlp := hl
 obtain ⟨hl0_, hl1_, hl2_, hl3_, hl4_⟩ := id hl
 have hO1 := hO.1
 have hsl : (stepsOf p.t).length = p.t.calls.length := List.length_map _
 have hsP := okSteps_of hc
 have hcp := hc.pr
 have hcn := hc.n
 obtain ⟨hc1, hc2, hc3, hc4, hc5, hc6⟩ := id hcc
 refine go ?_
 refine jM (xc p) fun b_6 => ?_
 refine jM [iv c.kind, str c.name, str c.to_, iv c.a, iv c.b, str c.text] fun b_7 => ?_
 refine jG [.slice none 0 0, .slice none 0 0] fun b_8 => ?_
 refine jb <| jT <| jc ?_
 refine JC.cut (fun e_ L_ => ∃ a_9 : Option Addr, ∃ c_10 : Nat, ∃ v_11 : List Cell, ∃ x_14 : MA, ∃ m_15 : MS, ∃ A_16 : AN, ∃ b_20 : Nat, ∃ b_21 : Nat, (viewA s p.t = v_11) ∧ (okC' (gro (n) p.t.calls.length) 1048576 v_11) ∧ ((⟨v_11, [], []⟩ : MS).doCall p.t.proc c = (m_15, A_16)) ∧ (m_15.ok (3 * (gro (n) p.t.calls.length) + 20) (7 * (gro (n) p.t.calls.length) + 200)) ∧ ((0 ≤ A_16.code ∧ A_16.code ≤ 9) ∧ (-1 ≤ A_16.n ∧ A_16.n ≤ 1000000000) ∧ A_16.text.length ≤ 30000000000000) ∧ EL e_ [(6, .pointer (some ⟨b_8, 0, none⟩)), (9, .pointer (some ⟨b_21, 0, none⟩))] ∧ L_ = [bk b_21 32 [.slice x_14.a1 m_15.r.length x_14.c1, .slice x_14.a2 m_15.w.length x_14.c2], bk b_20 39 [iv A_16.code, iv A_16.n, str A_16.text], rC x_14.a0 x_14.c0 m_15.s, rS x_14.a1 x_14.c1 m_15.r, rS x_14.a2 x_14.c2 m_15.w, rC a_9 c_10 v_11, bk b_8 32 [.slice none 0 0, .slice none 0 0], bk b_7 43 [iv c.kind, str c.name, str c.to_, iv c.a, iv c.b, str c.text], bk b_6 35 (xc p)]) ?_ ?_
 · refine jH [1, 1] 13 ?_
   refine go ?_
   repeat' first
     | refine kD (i := 2) (j := 11) (k := 12) (by decide +kernel) ?_ ?_ ?_
     | refine kD (i := 6) (j := 11) (k := 12) (by decide +kernel) ?_ ?_ ?_
     | refine jZ (i := 11) (j := 12) (by decide +kernel) ?_ ?_
     | refine jB (i := 12) ?_ (by decide +kernel)
     | refine jB (i := 14) ?_ (by decide +kernel)
     | refine jB (i := 15) ?_ (by decide +kernel)
     | refine jB (i := 11) ?_ (by decide +kernel)
     | refine jZ (i := 6) (j := 12) (by decide +kernel) ?_ ?_
     | refine jB (i := 6) ?_ (by decide +kernel)
     | refine jZ (i := 6) (j := 11) (by decide +kernel) ?_ ?_
     | refine jZ (i := 2) (j := 12) (by decide +kernel) ?_ ?_
     | refine jB (i := 2) ?_ (by decide +kernel)
     | refine jZ (i := 2) (j := 11) (by decide +kernel) ?_ ?_
     | (refine jI (i := 2) [] (Y_iTxView p hlv sa sc s n hO (by omega) hc hg hgT) (hpre := fun w hw => ⟨hw.seeOut_ hs_s nM, hw.seeOutA hpre.2.1 nMA, hw.hex hlow hpre.2.2⟩) ?_; rintro _ _ ⟨a_44, c_45, v_46, e_47, hO_48, rfl, rfl⟩)
     | (refine jI (i := 6) [] (I_callOn a_44 c_45 v_46 p.t.proc c (by have hl_ := (hO_48).1; omega) (by omega) hcc hO_48 (by omega)) (hpre := fun w hw => ⟨hw.sg, hw.hex hlow hpre.2.2⟩) ?_; rintro _ _ ⟨x_57, m_58, A_59, e_60, k_61, f_62, rfl, rfl⟩; refine go ?_)
     | (refine JX.al (i := 11) [iv 0, iv 0, str []] fun b_65 => ?_; refine go ?_)
     | (refine JX.al (i := 12) [.slice none 0 0, .slice none 0 0] fun b_67 => ?_; refine go ?_)
     | (refine JX.sx (i := 14) [iv A_59.code, iv A_59.n, str A_59.text] ?_)
     | (refine JX.sy (i := 15) [.slice x_57.a1 m_58.r.length x_57.c1, .slice x_57.a2 m_58.w.length x_57.c2] ?_)
     | exact JQ.cq ⟨a_44, c_45, v_46, x_57, m_58, A_59, b_65, b_67, e_47, hO_48, e_60, k_61, f_62, EL.go, rfl⟩
 rintro _ _ ⟨a_9, c_10, v_11, x_14, m_15, A_16, b_20, b_21, e_12, hO_13, e_17, k_18, f_19, ⟨_, rfl⟩, rfl⟩
 refine go ?_
 refine jD 6 [.slice x_14.a1 m_15.r.length x_14.c1, .slice x_14.a2 m_15.w.length x_14.c2] ?_
 refine go ?_
 refine ju (pick_perm [3, 3] (A := [rS x_14.a1 x_14.c1 m_15.r, rS x_14.a2 x_14.c2 m_15.w]) (F := [bk b_21 32 [.slice x_14.a1 m_15.r.length x_14.c1, .slice x_14.a2 m_15.w.length x_14.c2], bk b_20 39 [iv A_16.code, iv A_16.n, str A_16.text], rC x_14.a0 x_14.c0 m_15.s, rC a_9 c_10 v_11, bk b_8 32 [.slice x_14.a1 m_15.r.length x_14.c1, .slice x_14.a2 m_15.w.length x_14.c2], bk b_7 43 [iv c.kind, str c.name, str c.to_, iv c.a, iv c.b, str c.text], bk b_6 35 (xc p)]) rfl).symm ?_
 refine jE (.inl rfl) rfl (js (jl 6 (vs := [.slice x_14.a1 m_15.r.length x_14.c1, .slice x_14.a2 m_15.w.length x_14.c2]) rfl rfl kt ku rfl rfl) ⟨_, rfl⟩) (tS 2 _) ?_
 have hv := e_12
 have hd := e_17
 have hk1 := k_18.2.1
 have hk2 := k_18.2.2.1
 exact ⟨x_14, m_15, A_16, (by rw [hv]; exact hd), ⟨by omega, by omega⟩, rfl, rfl⟩

set_option maxRecDepth 4000 in
theorem Y_sWould (p : TX) (hl : p.t.lim 500000000) (sa : Option Addr) (sc : Nat) (s : List Cell) (n : Nat) (hO : okC' n 1048576 s) (hn : n ≤ 28000000) (hc : okT p.t) (hg : gro n p.t.calls.length ≤ 28000000) (hgT : groT n 0 p.t.calls.length ≤ 1000000000) (c : CL) (hcc : c.ok 1048576) :
   Ct Tryz.prog 80 [.slice sa s.length sc, .agg #[.int .i64 p.t.id, .int .i64 p.t.age, .int .i64 p.t.proc, .int .i64 p.t.began, .slice p.x.a0 p.t.calls.length p.x.c0, .slice p.x.a1 p.t.ans.length p.x.c1, .slice p.x.a2 p.t.rd.length p.x.c2, .slice p.x.a3 p.t.wr.length p.x.c3, .slice p.x.a4 p.t.marks.length p.x.c4, .int .i64 p.t.state], .agg #[.int .i64 c.kind, str c.name, str c.to_, .int .i64 c.a, .int .i64 c.b, str c.text]] [] (fun w => Sees w (.slice sa s.length sc) 2 s.length (s.flatMap encC) ∧ SeesA w (rdsX p)) (fun v A' => ∃ (x' : MA) (m' : MS) (a' : AN), (⟨viewL s p.t, [], []⟩ : MS).doCall p.t.proc c = (m', a') ∧ (m'.r.length ≤ 1000000000 ∧ m'.w.length ≤ 1000000000) ∧ v = .agg #[.slice x'.a1 m'.r.length x'.c1, .slice x'.a2 m'.w.length x'.c2] ∧ A' = [rS x'.a1 x'.c1 m'.r, rS x'.a2 x'.c2 m'.w]) := by
 have hlv := hl
 refine Ct.intro Tryz.func80 rfl Tryz.ntmps80 (lb rfl) fun w0 hpre => ?_
 have hs_s : Sees w0 _ _ _ _ := hpre.1
 have hl := hl.mono (show 500000000 ≤ 1000000000 by decide)
 obtain ⟨hs_1, hs_2, hs_3, hs_4, hs_5⟩ := seesX hpre.2
 have hlp := hl
 obtain ⟨hl0_, hl1_, hl2_, hl3_, hl4_⟩ := id hl
 have hO1 := hO.1
 have hsl : (stepsOf p.t).length = p.t.calls.length := List.length_map _
 have hsP := okSteps_of hc
 have hcp := hc.pr
 have hcn := hc.n
 obtain ⟨hc1, hc2, hc3, hc4, hc5, hc6⟩ := id hcc
 refine go ?_
 refine jM (xc p) fun b_6 => ?_
 refine jM [iv c.kind, str c.name, str c.to_, iv c.a, iv c.b, str c.text] fun b_7 => ?_
 refine jG [.slice none 0 0, .slice none 0 0] fun b_8 => ?_
 refine jb <| jT <| jc ?_
 refine JC.cut (fun e_ L_ => ∃ a_9 : Option Addr, ∃ c_10 : Nat, ∃ v_11 : List Cell, ∃ x_14 : MA, ∃ m_15 : MS, ∃ A_16 : AN, ∃ b_20 : Nat, ∃ b_21 : Nat, (viewL s p.t = v_11) ∧ (okC' (gro (n) p.t.calls.length) 1048576 v_11) ∧ ((⟨v_11, [], []⟩ : MS).doCall p.t.proc c = (m_15, A_16)) ∧ (m_15.ok (3 * (gro (n) p.t.calls.length) + 20) (7 * (gro (n) p.t.calls.length) + 200)) ∧ ((0 ≤ A_16.code ∧ A_16.code ≤ 9) ∧ (-1 ≤ A_16.n ∧ A_16.n ≤ 1000000000) ∧ A_16.text.length ≤ 30000000000000) ∧ EL e_ [(6, .pointer (some ⟨b_8, 0, none⟩)), (9, .pointer (some ⟨b_21, 0, none⟩))] ∧ L_ = [bk b_21 32 [.slice x_14.a1 m_15.r.length x_14.c1, .slice x_14.a2 m_15.w.length x_14.c2], bk b_20 39 [iv A_16.code, iv A_16.n, str A_16.text], rC x_14.a0 x_14.c0 m_15.s, rS x_14.a1 x_14.c1 m_15.r, rS x_14.a2 x_14.c2 m_15.w, rC a_9 c_10 v_11, bk b_8 32 [.slice none 0 0, .slice none 0 0], bk b_7 43 [iv c.kind, str c.name, str c.to_, iv c.a, iv c.b, str c.text], bk b_6 35 (xc p)]) ?_ ?_
 · refine jH [1, 1] 13 ?_
   refine go ?_
   repeat' first
     | refine kD (i := 2) (j := 11) (k := 12) (by decide +kernel) ?_ ?_ ?_
     | refine kD (i := 6) (j := 11) (k := 12) (by decide +kernel) ?_ ?_ ?_
     | refine jZ (i := 11) (j := 12) (by decide +kernel) ?_ ?_
     | refine jB (i := 12) ?_ (by decide +kernel)
     | refine jB (i := 14) ?_ (by decide +kernel)
     | refine jB (i := 15) ?_ (by decide +kernel)
     | refine jB (i := 11) ?_ (by decide +kernel)
     | refine jZ (i := 6) (j := 12) (by decide +kernel) ?_ ?_
     | refine jB (i := 6) ?_ (by decide +kernel)
     | refine jZ (i := 6) (j := 11) (by decide +kernel) ?_ ?_
     | refine jZ (i := 2) (j := 12) (by decide +kernel) ?_ ?_
     | refine jB (i := 2) ?_ (by decide +kernel)
     | refine jZ (i := 2) (j := 11) (by decide +kernel) ?_ ?_
     | (refine jI (i := 2) [] (Y_sTxView p hlv sa sc s n hO (by omega) hc hg hgT) (hpre := fun w hw => ⟨hw.seeOut_ hs_s nM, hw.seeOutA hpre.2 nMA⟩) ?_; rintro _ _ ⟨a_44, c_45, v_46, e_47, hO_48, rfl, rfl⟩)
     | (refine jI (i := 6) [] (D_callOn a_44 c_45 v_46 p.t.proc c (by have hl_ := (hO_48).1; omega) (by omega) hcc hO_48 (by omega)) (hpre := fun w hw => hw.sg) ?_; rintro _ _ ⟨x_57, m_58, A_59, e_60, k_61, f_62, rfl, rfl⟩; refine go ?_)
     | (refine JX.al (i := 11) [iv 0, iv 0, str []] fun b_65 => ?_; refine go ?_)
     | (refine JX.al (i := 12) [.slice none 0 0, .slice none 0 0] fun b_67 => ?_; refine go ?_)
     | (refine JX.sx (i := 14) [iv A_59.code, iv A_59.n, str A_59.text] ?_)
     | (refine JX.sy (i := 15) [.slice x_57.a1 m_58.r.length x_57.c1, .slice x_57.a2 m_58.w.length x_57.c2] ?_)
     | exact JQ.cq ⟨a_44, c_45, v_46, x_57, m_58, A_59, b_65, b_67, e_47, hO_48, e_60, k_61, f_62, EL.go, rfl⟩
 rintro _ _ ⟨a_9, c_10, v_11, x_14, m_15, A_16, b_20, b_21, e_12, hO_13, e_17, k_18, f_19, ⟨_, rfl⟩, rfl⟩
 refine go ?_
 refine jD 6 [.slice x_14.a1 m_15.r.length x_14.c1, .slice x_14.a2 m_15.w.length x_14.c2] ?_
 refine go ?_
 refine ju (pick_perm [3, 3] (A := [rS x_14.a1 x_14.c1 m_15.r, rS x_14.a2 x_14.c2 m_15.w]) (F := [bk b_21 32 [.slice x_14.a1 m_15.r.length x_14.c1, .slice x_14.a2 m_15.w.length x_14.c2], bk b_20 39 [iv A_16.code, iv A_16.n, str A_16.text], rC x_14.a0 x_14.c0 m_15.s, rC a_9 c_10 v_11, bk b_8 32 [.slice x_14.a1 m_15.r.length x_14.c1, .slice x_14.a2 m_15.w.length x_14.c2], bk b_7 43 [iv c.kind, str c.name, str c.to_, iv c.a, iv c.b, str c.text], bk b_6 35 (xc p)]) rfl).symm ?_
 refine jE (.inl rfl) rfl (js (jl 6 (vs := [.slice x_14.a1 m_15.r.length x_14.c1, .slice x_14.a2 m_15.w.length x_14.c2]) rfl rfl kt ku rfl rfl) ⟨_, rfl⟩) (tS 2 _) ?_
 have hv := e_12
 have hd := e_17
 have hk1 := k_18.2.1
 have hk2 := k_18.2.2.1
 exact ⟨x_14, m_15, A_16, (by rw [hv]; exact hd), ⟨by omega, by omega⟩, rfl, rfl⟩

set_option maxRecDepth 4000 in
theorem Y_sameTxs (a : Option Addr) (c : Nat) (s : List TX) (hn : s.length ≤ 1000000000) (hlim : ∀ x ∈ s, x.t.lim 1000000000) (b : Option Addr) (d : Nat) (q : List TX) :
   Ct Tryz.prog 81 [.slice a s.length c, .slice b q.length d] [] (fun w => SeesA w (rdsXS a c s) ∧ SeesA w (rdsXS b d q)) (fun v A' => v = .bool (decide (s.map TX.t = q.map TX.t)) ∧ A' = []) := by
 refine Ct.intro Tryz.func81 rfl Tryz.ntmps81 (lb rfl) fun w0 hpre => ?_
 have hs_1 : Sees w0 (.slice a s.length c) 10 s.length (s.flatMap encX) := (hpre.1).head
 have hi_2 : SeesA w0 (s.flatMap rdsX) := (hpre.1).tail
 have hs_3 : Sees w0 (.slice b q.length d) 10 q.length (q.flatMap encX) := (hpre.2).head
 have hi_4 : SeesA w0 (q.flatMap rdsX) := (hpre.2).tail
 refine go ?_
 by_cases h_5 : ((s.length : Nat) : Int) = ((q.length : Nat) : Int)
 · have hlen := h_5
   refine go ?_
   refine jL (fun k_ e_ L_ => ∃ j : Nat, (j ≤ s.length) ∧ ((s.take j).map TX.t = (q.take j).map TX.t) ∧ (s.length = q.length) ∧ EL e_ [(0, .slice a s.length c), (1, .slice b q.length d), (5, nv j)] ∧ L_ = [] ∧ k_ = s.length - j) _ ⟨0, by omega, rfl, (by omega), EL.go, rfl, rfl⟩ ?_
   rintro _ _ _ ⟨j, hj, hE, hln, ⟨_, rfl⟩, rfl, rfl⟩
   refine go ?_
   by_cases h_6 : ((j : Nat) : Int) < ((s.length : Nat) : Int)
   · have hlt : j < s.length := by omega
     refine go ?_
     refine jH [] 1000 ?_
     refine go ?_
     obtain ⟨hr_7, hr_7b, -⟩ := sees_some hs_1 (by omega)
     refine go ?_
     have hi_8 := SeesA.elem hi_2 x0 (show j < s.length by omega)
     obtain ⟨hs_9, hs_10, hs_11, hs_12, hs_13⟩ := seesX hi_8
     refine jk 3 rfl (jj (vs := (xc (s.getD j x0))) hs_1 nM rfl kT kQ (flat_take encX_len x0 s j (by omega)) rfl (by decide)) ?_
     refine go ?_
     obtain ⟨hr_14, hr_14b, -⟩ := sees_some hs_3 (by omega)
     refine go ?_
     have hi_15 := SeesA.elem hi_4 x0 (show j < q.length by omega)
     obtain ⟨hs_16, hs_17, hs_18, hs_19, hs_20⟩ := seesX hi_15
     refine jk 7 rfl (jj (vs := (xc (q.getD j x0))) hs_3 nM rfl kT kQ (flat_take encX_len x0 q j (by omega)) rfl (by decide)) ?_
     refine jB (i := 8) ?_
     refine jI [] (Y_sameTx (s.getD j x0) (q.getD j x0) (hlim _ (getD_mem (show j < s.length by omega)))) (hpre := fun w hw => ⟨hw.seeOutA hi_8 nMA, hw.seeOutA hi_15 nMA⟩) ?_
     rintro _ _ ⟨rfl, rfl⟩
     refine go ?_
     by_cases h_21 : (s.getD j x0).t = (q.getD j x0).t
     · have heq := h_21
       refine go ?_
       refine jV (s.length - (j + 1)) (by omega) ⟨j + 1, by omega, (take_succM_eq x0 hE hlt hln heq), hln, EL.go, rfl, rfl⟩
     have hne := h_21
     refine go ?_
     refine jE (.inl rfl) rfl (jC (v := .bool false) rfl) (List.nil_sublist _) ?_
     exact ⟨cB (dF (fun h_ => hne (getM_eq x0 h_ hlt hln))).symm, rfl⟩
   refine go ?_
   refine jE (.inl rfl) rfl (jC (v := .bool true) rfl) (List.nil_sublist _) ?_
   exact ⟨cB (dT (take_allM_eq hE (by omega) hln)).symm, rfl⟩
 have hlen := h_5
 refine go ?_
 refine jE (.inl rfl) rfl (jC (v := .bool false) rfl) (List.nil_sublist _) ?_
 exact ⟨cB (dF (fun h_ => by have h2_ := congrArg List.length h_; rw [List.length_map, List.length_map] at h2_; omega)).symm, rfl⟩
end Go.Proofs.YthlfmbbaomdciaaGreatDoor
