/-
  A kernel's transactions: found, laid (part 44).
-/
import Derived.Test.YtkmpmjficoohkaaGreatDatW
set_option linter.unusedSimpArgs false
set_option linter.unusedVariables false
set_option linter.unnecessarySimpa false
namespace Go.Proofs.YtkmpmjficoohkaaGreat
open Go Go.RowKit
attribute [local irreducible] JL JC JQ JO LO PO JA JX Ct

theorem N_findT1 (q : TX) (kb : Nat) (id : Int) :
    Ct Tryz.prog 115 [.agg #[.int .i64 q.t.id, .int .i64 q.t.age, .int .i64 q.t.proc, .int .i64 q.t.began, .slice q.x.a0 q.t.calls.length q.x.c0, .slice q.x.a1 q.t.ans.length q.x.c1, .slice q.x.a2 q.t.rd.length q.x.c2, .slice q.x.a3 q.t.wr.length q.x.c3, .slice q.x.a4 q.t.marks.length q.x.c4, .int .i64 q.t.state], .pointer (some ⟨kb, 0, none⟩)] [bk kb 3 [.int .i64 id]] (fun _ => True) (fun v A' => v = .bool (decide (q.t.id = id)) ∧ A' = [bk kb 3 [.int .i64 id]]) := by
  refine Ct.intro Tryz.func115 rfl Tryz.ntmps115 (Nat.le_of_ble_eq_true rfl) fun w0 hpre => ?_
  refine JC.seq ?_
  refine JC.region ?_
  refine JL.op rfl (JO.box (cs := [.int .i64 q.t.id, .int .i64 q.t.age, .int .i64 q.t.proc, .int .i64 q.t.began, .slice q.x.a0 q.t.calls.length q.x.c0, .slice q.x.a1 q.t.ans.length q.x.c1, .slice q.x.a2 q.t.rd.length q.x.c2, .slice q.x.a3 q.t.wr.length q.x.c3, .slice q.x.a4 q.t.marks.length q.x.c4, .int .i64 q.t.state]) rfl rfl) ?_
  rintro _ _ ⟨b_1, rfl, rfl⟩
  refine JL.pure rfl (PO.assign (v := .bool false) rfl) ?_
  refine JL.nil ?_
  refine JQ.seq ?_
  refine JC.seq ?_
  refine JC.region ?_
  refine JL.pure rfl (PO.fieldAddr fo61_0 rfl) ?_
  refine JL.ld rfl (LO.load1 0 (v := .int .i64 q.t.id) rfl rfl Tryz.isAgg3 rfl) ?_
  refine JL.ld rfl (LO.load1 1 (v := .int .i64 id) rfl rfl Tryz.isAgg3 rfl) ?_
  refine JL.pure rfl (PO.eqlI rfl rfl) ?_
  refine JL.pure rfl (PO.assign (v := .bool (decide (q.t.id = id))) rfl) ?_
  refine JL.nil ?_
  refine JQ.seq ?_
  refine JC.ret ?_
  refine JQ.perm (pick_perm [1] (A := [bk kb 3 [.int .i64 id]]) (F := [bk b_1 61 [.int .i64 q.t.id, .int .i64 q.t.age, .int .i64 q.t.proc, .int .i64 q.t.began, .slice q.x.a0 q.t.calls.length q.x.c0, .slice q.x.a1 q.t.ans.length q.x.c1, .slice q.x.a2 q.t.rd.length q.x.c2, .slice q.x.a3 q.t.wr.length q.x.c3, .slice q.x.a4 q.t.marks.length q.x.c4, .int .i64 q.t.state]]) rfl).symm ?_
  refine Done.one (.inl rfl) rfl (RV.tmp (v := .bool (decide (q.t.id = id))) rfl) (List.sublist_append_left [bk kb 3 [.int .i64 id]] [bk b_1 61 [.int .i64 q.t.id, .int .i64 q.t.age, .int .i64 q.t.proc, .int .i64 q.t.began, .slice q.x.a0 q.t.calls.length q.x.c0, .slice q.x.a1 q.t.ans.length q.x.c1, .slice q.x.a2 q.t.rd.length q.x.c2, .slice q.x.a3 q.t.wr.length q.x.c3, .slice q.x.a4 q.t.marks.length q.x.c4, .int .i64 q.t.state]]) ?_
  exact ⟨rfl, rfl⟩

theorem C_ixfindT (a : Option Addr) (c : Nat) (l : List TX) (hn : l.length ≤ 1000000000000) (kb : Nat) (id : Int) :
    Ct Tryz.prog 114 [.slice a l.length c, .func (.func 115) #[] #[.pointer (some ⟨kb, 0, none⟩)]] [bk kb 3 [.int .i64 id]] (fun w_ => Sees w_ (.slice a l.length c) 10 l.length (l.flatMap encX) ∧ (∀ b, (Value.slice a l.length c).ownBlock = some b → b ≠ kb)) (fun v A' => v = .int .i64 (findT (l.map TX.t) id) ∧ A' = [bk kb 3 [.int .i64 id]]) := by
  refine Ct.intro Tryz.func114 rfl Tryz.ntmps114 (Nat.le_of_ble_eq_true rfl) fun w0 hpre => ?_
  refine JC.seq ?_
  refine JC.region ?_
  refine JL.pure rfl (PO.assign (v := .int .i64 0) rfl) ?_
  refine JL.nil ?_
  refine JQ.seq ?_
  refine JC.seq ?_
  refine JC.seq ?_
  refine JC.region ?_
  refine JL.pure rfl (PO.move (v := .slice a l.length c) rfl) ?_
  refine JL.pure rfl (PO.lenV Tryz.underlying35 rfl) ?_
  refine JL.pure rfl (PO.move (v := .int .i64 0) rfl) ?_
  refine JL.nil ?_
  refine JQ.seq ?_
  refine JC.block ?_
  refine JC.loop (fun k_ e_ L_ => ∃ j : Nat, (j ≤ l.length) ∧ (∀ i, i < j → ¬ ((l.getD i x0).t.id = id)) ∧ e_ 0 = .slice a l.length c ∧ e_ 1 = .func (.func 115) #[] #[.pointer (some ⟨kb, 0, none⟩)] ∧ e_ 7 = .int .i64 ((l.length : Nat) : Int) ∧ e_ 8 = .int .i64 ((j : Nat) : Int) ∧ L_ = [bk kb 3 [.int .i64 id]] ∧ k_ = l.length - j) _ ⟨0, by omega, (fun i hi => absurd hi (Nat.not_lt_zero i)), rfl, rfl, rfl, rfl, rfl, rfl⟩ ?_
  rintro _ e_1 _ ⟨j, hj, hN, he_2, he_3, he_4, he_5, rfl, rfl⟩
  refine JC.seq ?_
  refine JC.region ?_
  refine JL.pure rfl (PO.lss he_5 he_4) ?_
  refine JL.nil ?_
  refine JQ.seq ?_
  refine JC.seq ?_
  by_cases h_6 : ((j : Nat) : Int) < ((l.length : Nat) : Int)
  · skip
    have hlt : j < l.length := by omega
    refine JC.condT (congrArg Value.bool (decide_eq_true h_6)) ?_
    refine JC.skip ?_
    refine JQ.seq ?_
    refine JC.seq ?_
    refine JC.block ?_
    refine JC.seq ?_
    refine JC.region ?_
    refine JL.pure rfl (PO.move (v := .int .i64 ((j : Nat) : Int)) he_5) ?_
    refine JL.pure rfl (PO.assign (v := .int .i64 ((j : Nat) : Int)) rfl) ?_
    refine JL.nil ?_
    refine JQ.seq ?_
    refine JC.seq ?_
    refine JC.region ?_
    refine JL.pure rfl (PO.move (v := .func (.func 115) #[] #[.pointer (some ⟨kb, 0, none⟩)]) he_3) ?_
    refine JL.pure rfl (PO.move (v := .slice a l.length c) he_2) ?_
    refine JL.pure rfl (PO.move (v := .int .i64 ((j : Nat) : Int)) rfl) ?_
    obtain ⟨hr_7, hr_7b, -⟩ := sees_some hpre.1 (by omega)
    refine JL.pure rfl (PO.indexAddrV (i := j) Tryz.underlying35 Tryz.sizeOf61 hr_7 hr_7b rfl rfl (by omega)) ?_
    refine JL.ld rfl (LO.loadSK (vs := [.int .i64 ((l.getD j x0).t.id), .int .i64 ((l.getD j x0).t.age), .int .i64 ((l.getD j x0).t.proc), .int .i64 ((l.getD j x0).t.began), .slice ((l.getD j x0).x.a0) ((l.getD j x0).t.calls.length) ((l.getD j x0).x.c0), .slice ((l.getD j x0).x.a1) ((l.getD j x0).t.ans.length) ((l.getD j x0).x.c1), .slice ((l.getD j x0).x.a2) ((l.getD j x0).t.rd.length) ((l.getD j x0).x.c2), .slice ((l.getD j x0).x.a3) ((l.getD j x0).t.wr.length) ((l.getD j x0).x.c3), .slice ((l.getD j x0).x.a4) ((l.getD j x0).t.marks.length) ((l.getD j x0).x.c4), .int .i64 ((l.getD j x0).t.state)]) hpre.1 (notin_bk hpre.2) rfl Tryz.isAgg61 Tryz.sizeOf61 (flat_take encX_len x0 l j (by omega)) rfl (by decide)) ?_
    refine JL.op rfl (JO.callV [0] Tryz.call115 rfl (N_findT1 (l.getD j x0) kb id) rfl rfl (fun _ _ => trivial)) ?_
    rintro _ _ ⟨_, ⟨rfl, rfl⟩, rfl⟩
    refine JL.nil ?_
    refine JQ.seq ?_
    by_cases h_8 : (l.getD j x0).t.id = id
    · skip
      have hpj := h_8
      refine JC.condT (congrArg Value.bool (decide_eq_true h_8)) ?_
      refine JC.seq ?_
      refine JC.region ?_
      refine JL.pure rfl (PO.move (v := .int .i64 ((j : Nat) : Int)) rfl) ?_
      refine JL.pure rfl (PO.assign (v := .int .i64 ((j : Nat) : Int)) rfl) ?_
      refine JL.nil ?_
      refine JQ.seq ?_
      refine JC.ret ?_
      refine JQ.blockRet ?_
      refine JQ.thenRet ?_
      refine JQ.thenRet ?_
      refine JQ.blockRet ?_
      refine JQ.thenRet ?_
      refine Done.one (.inl rfl) rfl (RV.tmp (v := .int .i64 ((j : Nat) : Int)) rfl) (List.Sublist.refl _) ?_
      refine ⟨congrArg (Value.int .i64) ?_, rfl⟩
      exact (idxT_found (P := fun t => t.id = id) hlt hN hpj).symm
    · skip
      have hpj := h_8
      refine JC.condF (congrArg Value.bool (decide_eq_false h_8)) ?_
      refine JC.skip ?_
      refine JQ.blockN ?_
      refine JQ.seq ?_
      refine JC.region ?_
      refine JL.pure rfl (PO.add (c := ((j + 1 : Nat) : Int)) he_5 rfl (wr (by omega))) ?_
      refine JL.pure rfl (PO.move (v := .int .i64 ((j + 1 : Nat) : Int)) rfl) ?_
      refine JL.nil ?_
      refine JQ.again (l.length - (j + 1)) (by omega) ⟨j + 1, by omega, (fun i hi => if h : i = j then h ▸ hpj else hN i (by omega)), he_2, he_3, he_4, rfl, rfl, rfl⟩
  · skip
    refine JC.condF (congrArg Value.bool (decide_eq_false h_6)) ?_
    refine JC.exit ?_
    refine JQ.thenExit ?_
    refine JQ.thenExit ?_
    refine JQ.blockE ?_
    refine JQ.seq ?_
    refine JC.seq ?_
    refine JC.region ?_
    refine JL.pure rfl (PO.assign (v := .int .i64 (-1)) rfl) ?_
    refine JL.nil ?_
    refine JQ.seq ?_
    refine JC.ret ?_
    refine Done.one (.inl rfl) rfl (RV.tmp (v := .int .i64 (-1)) rfl) (List.Sublist.refl _) ?_
    refine ⟨congrArg (Value.int .i64) ?_, rfl⟩
    exact (idxT_none (P := fun t => t.id = id) (by omega) hN).symm

theorem N_iFindTx (a : Option Addr) (c : Nat) (l : List TX) (hn : l.length ≤ 1000000000) (id : Int) :
    Ct Tryz.prog 64 [.slice a l.length c, .int .i64 id] [] (fun w_ => Sees w_ (.slice a l.length c) 10 l.length (l.flatMap encX)) (fun v A' => v = .int .i64 (findT (l.map TX.t) id) ∧ A' = []) := by
  refine Ct.intro Tryz.func64 rfl Tryz.ntmps64 (Nat.le_of_ble_eq_true rfl) fun w0 hpre => ?_
  refine JC.seq ?_
  refine JC.region ?_
  refine JL.op rfl (JO.box (cs := [.int .i64 id]) rfl rfl) ?_
  rintro _ _ ⟨b_1, rfl, rfl⟩
  refine JL.pure rfl (PO.assign (v := .int .i64 0) rfl) ?_
  refine JL.nil ?_
  refine JQ.seq ?_
  refine JC.seq ?_
  refine JC.region ?_
  refine JL.pure rfl (PO.move (v := .slice a l.length c) rfl) ?_
  refine JL.pure rfl (PO.makeFunc (fv := []) (cv := [.pointer (some ⟨b_1, 0, none⟩)]) rfl rfl) ?_
  refine JL.op rfl (JO.call [0] Tryz.call114 rfl (C_ixfindT a c l (by omega) b_1 id) rfl (fun w hw => ⟨hw.seeOut_ hpre (fun _ _ => List.not_mem_nil), hw.apartF 0 hpre rfl List.not_mem_nil⟩)) ?_
  rintro _ _ ⟨_, ⟨rfl, rfl⟩, rfl⟩
  have hlo_2 := idxT_lo (fun t => t.id = id) (l.map TX.t)
  refine JL.pure rfl (PO.assign (v := .int .i64 (findT (l.map TX.t) id)) rfl) ?_
  refine JL.nil ?_
  refine JQ.seq ?_
  refine JC.ret ?_
  refine Done.one (.inl rfl) rfl (RV.tmp (v := .int .i64 (findT (l.map TX.t) id)) rfl) (List.nil_sublist _) ?_
  exact ⟨rfl, rfl⟩

theorem N_sFindTx (a : Option Addr) (c : Nat) (l : List TX) (hn : l.length ≤ 1000000000) (id : Int) :
    Ct Tryz.prog 58 [.slice a l.length c, .int .i64 id] [] (fun w_ => Sees w_ (.slice a l.length c) 10 l.length (l.flatMap encX)) (fun v A' => v = .int .i64 (findT (l.map TX.t) id) ∧ A' = []) := by
  refine Ct.intro Tryz.func58 rfl Tryz.ntmps58 (Nat.le_of_ble_eq_true rfl) fun w0 hpre => ?_
  refine JC.seq ?_
  refine JC.region ?_
  refine JL.pure rfl (PO.assign (v := .int .i64 0) rfl) ?_
  refine JL.nil ?_
  refine JQ.seq ?_
  refine JC.seq ?_
  refine JC.seq ?_
  refine JC.region ?_
  refine JL.pure rfl (PO.assign (v := .int .i64 0) rfl) ?_
  refine JL.nil ?_
  refine JQ.seq ?_
  refine JC.block ?_
  refine JC.loop (fun k_ e_ L_ => ∃ j : Nat, (j ≤ l.length) ∧ (∀ i, i < j → ¬ ((l.getD i x0).t.id = id)) ∧ e_ 0 = .slice a l.length c ∧ e_ 1 = .int .i64 id ∧ e_ 5 = .int .i64 ((j : Nat) : Int) ∧ L_ = [] ∧ k_ = l.length - j) _ ⟨0, by omega, (fun i hi => absurd hi (Nat.not_lt_zero i)), rfl, rfl, rfl, rfl, rfl⟩ ?_
  rintro _ e_1 _ ⟨j, hj, hN, he_2, he_3, he_4, rfl, rfl⟩
  refine JC.seq ?_
  refine JC.seq ?_
  refine JC.region ?_
  refine JL.pure rfl (PO.move (v := .int .i64 ((j : Nat) : Int)) he_4) ?_
  refine JL.pure rfl (PO.move (v := .slice a l.length c) he_2) ?_
  refine JL.pure rfl (PO.lenV Tryz.underlying35 rfl) ?_
  refine JL.pure rfl (PO.lss rfl rfl) ?_
  refine JL.nil ?_
  refine JQ.seq ?_
  by_cases h_5 : ((j : Nat) : Int) < ((l.length : Nat) : Int)
  · skip
    have hlt : j < l.length := by omega
    refine JC.condT (congrArg Value.bool (decide_eq_true h_5)) ?_
    refine JC.skip ?_
    refine JQ.seq ?_
    refine JC.seq ?_
    refine JC.block ?_
    refine JC.seq ?_
    refine JC.region ?_
    refine JL.pure rfl (PO.move (v := .slice a l.length c) he_2) ?_
    refine JL.pure rfl (PO.move (v := .int .i64 ((j : Nat) : Int)) he_4) ?_
    obtain ⟨hr_6, hr_6b, -⟩ := sees_some hpre (by omega)
    refine JL.pure rfl (PO.indexAddrV (i := j) Tryz.underlying35 Tryz.sizeOf61 hr_6 hr_6b rfl rfl (by omega)) ?_
    refine JL.pure rfl (PO.fieldAddrE fo61_0 hr_6 rfl) ?_
    refine JL.ld rfl (LO.loadS1 (v := .int .i64 ((l.getD j x0).t.id)) hpre (fun _ _ => List.not_mem_nil) rfl Tryz.isAgg3 (flat_at encX_len x0 l j 0 (by omega) (by decide))) ?_
    refine JL.pure rfl (PO.move (v := .int .i64 id) he_3) ?_
    refine JL.pure rfl (PO.eqlI rfl rfl) ?_
    refine JL.nil ?_
    refine JQ.seq ?_
    by_cases h_7 : ((l.getD j x0).t.id) = id
    · skip
      have hpj := h_7
      refine JC.condT (congrArg Value.bool (decide_eq_true h_7)) ?_
      refine JC.seq ?_
      refine JC.region ?_
      refine JL.pure rfl (PO.move (v := .int .i64 ((j : Nat) : Int)) he_4) ?_
      refine JL.pure rfl (PO.assign (v := .int .i64 ((j : Nat) : Int)) rfl) ?_
      refine JL.nil ?_
      refine JQ.seq ?_
      refine JC.ret ?_
      refine JQ.blockRet ?_
      refine JQ.thenRet ?_
      refine JQ.thenRet ?_
      refine JQ.blockRet ?_
      refine JQ.thenRet ?_
      refine Done.one (.inl rfl) rfl (RV.tmp (v := .int .i64 ((j : Nat) : Int)) rfl) (List.nil_sublist _) ?_
      refine ⟨congrArg (Value.int .i64) ?_, rfl⟩
      exact (idxT_found (P := fun t => t.id = id) hlt hN hpj).symm
    · skip
      have hpj := h_7
      refine JC.condF (congrArg Value.bool (decide_eq_false h_7)) ?_
      refine JC.skip ?_
      refine JQ.blockN ?_
      refine JQ.seq ?_
      refine JC.region ?_
      refine JL.pure rfl (PO.move (v := .int .i64 ((j : Nat) : Int)) he_4) ?_
      refine JL.pure rfl (PO.add (c := ((j + 1 : Nat) : Int)) rfl rfl (wr (by omega))) ?_
      refine JL.pure rfl (PO.assign (v := .int .i64 ((j + 1 : Nat) : Int)) rfl) ?_
      refine JL.nil ?_
      refine JQ.again (l.length - (j + 1)) (by omega) ⟨j + 1, by omega, (fun i hi => if h : i = j then h ▸ hpj else hN i (by omega)), he_2, he_3, rfl, rfl, rfl⟩
  · skip
    refine JC.condF (congrArg Value.bool (decide_eq_false h_5)) ?_
    refine JC.exit ?_
    refine JQ.thenExit ?_
    refine JQ.thenExit ?_
    refine JQ.blockE ?_
    refine JQ.seq ?_
    refine JC.seq ?_
    refine JC.region ?_
    refine JL.pure rfl (PO.assign (v := .int .i64 (-1)) rfl) ?_
    refine JL.nil ?_
    refine JQ.seq ?_
    refine JC.ret ?_
    refine Done.one (.inl rfl) rfl (RV.tmp (v := .int .i64 (-1)) rfl) (List.nil_sublist _) ?_
    refine ⟨congrArg (Value.int .i64) ?_, rfl⟩
    exact (idxT_none (P := fun t => t.id = id) (by omega) hN).symm

set_option maxRecDepth 4000 in
set_option maxHeartbeats 1000000 in
theorem Z_implWithTx (k : KX) (p : TX) (hl : k.dat.lim 1000000000) (hp : p.t.lim 1000000000) :
    Ct Tryz.prog 18 [.agg #[.slice k.a0 k.store.length k.c0, .slice k.a1 k.txs.length k.c1, .slice k.dk.a k.dk.l.length k.dk.c, str k.dk.jt, .int .i64 k.dk.js, .int .i64 k.seq, .int .i64 k.next, .int .i64 k.time, .slice k.a2 k.hist.length k.c2, .slice k.a3 k.seen.length k.c3, .bool k.room], .agg #[.int .i64 p.t.id, .int .i64 p.t.age, .int .i64 p.t.proc, .int .i64 p.t.began, .slice p.x.a0 p.t.calls.length p.x.c0, .slice p.x.a1 p.t.ans.length p.x.c1, .slice p.x.a2 p.t.rd.length p.x.c2, .slice p.x.a3 p.t.wr.length p.x.c3, .slice p.x.a4 p.t.marks.length p.x.c4, .int .i64 p.t.state]] [] (fun w => SeesA w (rdsN k) ∧ SeesA w (rdsX p)) (fun v A' => ∃ y : KX, y.dat = k.dat.withT p.t ∧ v = .agg #[.slice y.a0 y.store.length y.c0, .slice y.a1 y.txs.length y.c1, .slice y.dk.a y.dk.l.length y.dk.c, str y.dk.jt, .int .i64 y.dk.js, .int .i64 y.seq, .int .i64 y.next, .int .i64 y.time, .slice y.a2 y.hist.length y.c2, .slice y.a3 y.seen.length y.c3, .bool y.room] ∧ A' = [.rows (rdsN y)]) := by
  refine Ct.intro Tryz.func18 rfl Tryz.ntmps18 (Nat.le_of_ble_eq_true rfl) fun w0 hpre => ?_
  obtain ⟨hs_1, hs_2, hs_3, hs_4, hs_5⟩ := seesN hpre.1
  have hs_6 : Sees w0 (.slice k.a1 k.txs.length k.c1) 10 k.txs.length (k.txs.flatMap encX) := (hs_3).head
  have hi_7 : SeesA w0 (k.txs.flatMap rdsX) := (hs_3).tail
  have hs_8 : Sees w0 (.slice k.dk.a k.dk.l.length k.dk.c) 3 k.dk.l.length (k.dk.l.flatMap encO) := (hs_4).head
  have hi_9 : SeesA w0 (k.dk.l.flatMap rdsO) := (hs_4).tail
  have hs_10 : Sees w0 (.slice k.a2 k.hist.length k.c2) 8 k.hist.length (k.hist.flatMap encE) := (hs_5).head
  have hi_11 : SeesA w0 (k.hist.flatMap rdsE) := (hs_5).tail
  obtain ⟨hs_12, hs_13, hs_14, hs_15, hs_16⟩ := seesX hpre.2
  have hm0 : k.store.length ≤ 1000000000 := hl.l0
  have hm6 : k.seen.length ≤ 1000000000 := hl.l6
  have hm1 : k.txs.length ≤ 1000000000 := by have := hl.l1; simpa only [KX.dat, List.length_map] using this
  have hm2 : ∀ q ∈ k.txs, q.t.lim 1000000000 := fun q hq => hl.l2 _ (List.mem_map_of_mem hq)
  have hm4 : k.hist.length ≤ 1000000000 := by have := hl.l4; simpa only [KX.dat, List.length_map] using this
  have hm5 : ∀ q ∈ k.hist, q.t.lim 1000000000 := fun q hq => hl.l5 _ (List.mem_map_of_mem hq)
  refine JC.seq ?_
  refine JC.region ?_
  refine JL.op rfl (JO.box (cs := [.slice k.a0 k.store.length k.c0, .slice k.a1 k.txs.length k.c1, .slice k.dk.a k.dk.l.length k.dk.c, str k.dk.jt, .int .i64 k.dk.js, .int .i64 k.seq, .int .i64 k.next, .int .i64 k.time, .slice k.a2 k.hist.length k.c2, .slice k.a3 k.seen.length k.c3, .bool k.room]) rfl rfl) ?_
  rintro _ _ ⟨b_17, rfl, rfl⟩
  refine JL.op rfl (JO.box (cs := [.int .i64 p.t.id, .int .i64 p.t.age, .int .i64 p.t.proc, .int .i64 p.t.began, .slice p.x.a0 p.t.calls.length p.x.c0, .slice p.x.a1 p.t.ans.length p.x.c1, .slice p.x.a2 p.t.rd.length p.x.c2, .slice p.x.a3 p.t.wr.length p.x.c3, .slice p.x.a4 p.t.marks.length p.x.c4, .int .i64 p.t.state]) rfl rfl) ?_
  rintro _ _ ⟨b_18, rfl, rfl⟩
  refine JL.op rfl (JO.alloc (z := .agg #[.slice none 0 0, .slice none 0 0, .slice none 0 0, str [], .int .i64 0, .int .i64 0, .int .i64 0, .int .i64 0, .slice none 0 0, .slice none 0 0, .bool false]) (cs := [.slice none 0 0, .slice none 0 0, .slice none 0 0, str [], .int .i64 0, .int .i64 0, .int .i64 0, .int .i64 0, .slice none 0 0, .slice none 0 0, .bool false]) Tryz.zeroValue42 rfl) ?_
  rintro _ _ ⟨b_19, rfl, rfl⟩
  refine JL.nil ?_
  refine JQ.seq ?_
  refine JC.seq ?_
  refine JC.region ?_
  refine JL.ld rfl (LO.loadK 2 (vs := [.slice k.a0 k.store.length k.c0, .slice k.a1 k.txs.length k.c1, .slice k.dk.a k.dk.l.length k.dk.c, str k.dk.jt, .int .i64 k.dk.js, .int .i64 k.seq, .int .i64 k.next, .int .i64 k.time, .slice k.a2 k.hist.length k.c2, .slice k.a3 k.seen.length k.c3, .bool k.room]) rfl rfl Tryz.isAgg42 Tryz.sizeOf42 rfl rfl) ?_
  refine JL.op rfl (JO.call [] Tryz.call38 rfl (Z_implKernelclone k hl) rfl (fun w hw => hw.seeOutA hpre.1 nMA)) ?_
  rintro _ _ ⟨_, ⟨y_20, hy_21, rfl, rfl⟩, rfl⟩
  have hyl_22 := KX.txs_len hy_21
  refine JL.op rfl (JO.alloc (z := .agg #[.slice none 0 0, .slice none 0 0, .slice none 0 0, str [], .int .i64 0, .int .i64 0, .int .i64 0, .int .i64 0, .slice none 0 0, .slice none 0 0, .bool false]) (cs := [.slice none 0 0, .slice none 0 0, .slice none 0 0, str [], .int .i64 0, .int .i64 0, .int .i64 0, .int .i64 0, .slice none 0 0, .slice none 0 0, .bool false]) Tryz.zeroValue42 rfl) ?_
  rintro _ _ ⟨b_23, rfl, rfl⟩
  refine JL.op rfl (JO.store 0 (vs := [.slice y_20.a0 y_20.store.length y_20.c0, .slice y_20.a1 y_20.txs.length y_20.c1, .slice y_20.dk.a y_20.dk.l.length y_20.dk.c, str y_20.dk.jt, .int .i64 y_20.dk.js, .int .i64 y_20.seq, .int .i64 y_20.next, .int .i64 y_20.time, .slice y_20.a2 y_20.hist.length y_20.c2, .slice y_20.a3 y_20.seen.length y_20.c3, .bool y_20.room]) (cs' := [.slice y_20.a0 y_20.store.length y_20.c0, .slice y_20.a1 y_20.txs.length y_20.c1, .slice y_20.dk.a y_20.dk.l.length y_20.dk.c, str y_20.dk.jt, .int .i64 y_20.dk.js, .int .i64 y_20.seq, .int .i64 y_20.next, .int .i64 y_20.time, .slice y_20.a2 y_20.hist.length y_20.c2, .slice y_20.a3 y_20.seen.length y_20.c3, .bool y_20.room]) rfl rfl rfl rfl Tryz.sizeOf42 rfl rfl (Nat.le_of_ble_eq_true rfl) rfl) ?_
  rintro _ _ rfl
  refine JL.nil ?_
  refine JQ.seq ?_
  refine JC.seq ?_
  refine JC.seq ?_
  refine JC.region ?_
  refine JL.pure rfl (PO.fieldAddr fo42_1 rfl) ?_
  refine JL.ld rfl (LO.load1 4 (v := .slice k.a1 k.txs.length k.c1) rfl rfl Tryz.isAgg35 rfl) ?_
  refine JL.pure rfl (PO.fieldAddr fo61_0 rfl) ?_
  refine JL.ld rfl (LO.load1 3 (v := .int .i64 p.t.id) rfl rfl Tryz.isAgg3 rfl) ?_
  refine JL.op rfl (JO.call [] Tryz.call64 rfl (N_iFindTx k.a1 k.c1 k.txs (by (try simp only [List.length_take]); omega) p.t.id) rfl (fun w hw => hw.seeOut_ hs_6 (fun _ _ => List.not_mem_nil))) ?_
  rintro _ _ ⟨_, ⟨rfl, rfl⟩, rfl⟩
  have hlo_24 := idxT_lo (fun t => t.id = p.t.id) (k.txs.map TX.t)
  refine JL.pure rfl (PO.assign (v := .int .i64 (findT (k.txs.map TX.t) p.t.id)) rfl) ?_
  refine JL.nil ?_
  refine JQ.seq ?_
  refine JC.seq ?_
  refine JC.region ?_
  refine JL.pure rfl (PO.move (v := .int .i64 (findT (k.txs.map TX.t) p.t.id)) rfl) ?_
  refine JL.pure rfl (PO.geq rfl rfl) ?_
  refine JL.nil ?_
  refine JQ.seq ?_
  by_cases h_25 : 0 ≤ (findT (k.txs.map TX.t) p.t.id)
  · skip
    obtain ⟨at_26, hat_27⟩ : ∃ n_ : Nat, findT (k.txs.map TX.t) p.t.id = ((n_ : Nat) : Int) := ⟨(findT (k.txs.map TX.t) p.t.id).toNat, by omega⟩
    have hlt_28 := idxT_lt hat_27
    refine JC.condT (congrArg Value.bool (decide_eq_true h_25)) ?_
    refine JC.ghost (L' := [rC y_20.a0 y_20.c0 y_20.store, rS y_20.a3 y_20.c3 y_20.seen, Res.rows (rdsXS y_20.a1 y_20.c1 y_20.txs), Res.rows (rdsD y_20.dk), Res.rows (rdsES y_20.a2 y_20.c2 y_20.hist), bk b_23 42 [.slice y_20.a0 y_20.store.length y_20.c0, .slice y_20.a1 y_20.txs.length y_20.c1, .slice y_20.dk.a y_20.dk.l.length y_20.dk.c, str y_20.dk.jt, .int .i64 y_20.dk.js, .int .i64 y_20.seq, .int .i64 y_20.next, .int .i64 y_20.time, .slice y_20.a2 y_20.hist.length y_20.c2, .slice y_20.a3 y_20.seen.length y_20.c3, .bool y_20.room], bk b_19 42 [.slice none 0 0, .slice none 0 0, .slice none 0 0, str [], .int .i64 0, .int .i64 0, .int .i64 0, .int .i64 0, .slice none 0 0, .slice none 0 0, .bool false], bk b_18 61 [.int .i64 p.t.id, .int .i64 p.t.age, .int .i64 p.t.proc, .int .i64 p.t.began, .slice p.x.a0 p.t.calls.length p.x.c0, .slice p.x.a1 p.t.ans.length p.x.c1, .slice p.x.a2 p.t.rd.length p.x.c2, .slice p.x.a3 p.t.wr.length p.x.c3, .slice p.x.a4 p.t.marks.length p.x.c4, .int .i64 p.t.state], bk b_17 42 [.slice k.a0 k.store.length k.c0, .slice k.a1 k.txs.length k.c1, .slice k.dk.a k.dk.l.length k.dk.c, str k.dk.jt, .int .i64 k.dk.js, .int .i64 k.seq, .int .i64 k.next, .int .i64 k.time, .slice k.a2 k.hist.length k.c2, .slice k.a3 k.seen.length k.c3, .bool k.room]]) (fun w hw => St.openN (St.perm hw (pick_perm [1] (A := [Res.rows (rdsN y_20)]) (F := [bk b_23 42 [.slice y_20.a0 y_20.store.length y_20.c0, .slice y_20.a1 y_20.txs.length y_20.c1, .slice y_20.dk.a y_20.dk.l.length y_20.dk.c, str y_20.dk.jt, .int .i64 y_20.dk.js, .int .i64 y_20.seq, .int .i64 y_20.next, .int .i64 y_20.time, .slice y_20.a2 y_20.hist.length y_20.c2, .slice y_20.a3 y_20.seen.length y_20.c3, .bool y_20.room], bk b_19 42 [.slice none 0 0, .slice none 0 0, .slice none 0 0, str [], .int .i64 0, .int .i64 0, .int .i64 0, .int .i64 0, .slice none 0 0, .slice none 0 0, .bool false], bk b_18 61 [.int .i64 p.t.id, .int .i64 p.t.age, .int .i64 p.t.proc, .int .i64 p.t.began, .slice p.x.a0 p.t.calls.length p.x.c0, .slice p.x.a1 p.t.ans.length p.x.c1, .slice p.x.a2 p.t.rd.length p.x.c2, .slice p.x.a3 p.t.wr.length p.x.c3, .slice p.x.a4 p.t.marks.length p.x.c4, .int .i64 p.t.state], bk b_17 42 [.slice k.a0 k.store.length k.c0, .slice k.a1 k.txs.length k.c1, .slice k.dk.a k.dk.l.length k.dk.c, str k.dk.jt, .int .i64 k.dk.js, .int .i64 k.seq, .int .i64 k.next, .int .i64 k.time, .slice k.a2 k.hist.length k.c2, .slice k.a3 k.seen.length k.c3, .bool k.room]]) rfl).symm)) ?_
    refine JC.ghost (L' := [Res.row (.slice y_20.a1 y_20.txs.length y_20.c1) 61 10 y_20.txs.length (y_20.txs.flatMap encX), Res.rows (y_20.txs.flatMap rdsX), rC y_20.a0 y_20.c0 y_20.store, rS y_20.a3 y_20.c3 y_20.seen, Res.rows (rdsD y_20.dk), Res.rows (rdsES y_20.a2 y_20.c2 y_20.hist), bk b_23 42 [.slice y_20.a0 y_20.store.length y_20.c0, .slice y_20.a1 y_20.txs.length y_20.c1, .slice y_20.dk.a y_20.dk.l.length y_20.dk.c, str y_20.dk.jt, .int .i64 y_20.dk.js, .int .i64 y_20.seq, .int .i64 y_20.next, .int .i64 y_20.time, .slice y_20.a2 y_20.hist.length y_20.c2, .slice y_20.a3 y_20.seen.length y_20.c3, .bool y_20.room], bk b_19 42 [.slice none 0 0, .slice none 0 0, .slice none 0 0, str [], .int .i64 0, .int .i64 0, .int .i64 0, .int .i64 0, .slice none 0 0, .slice none 0 0, .bool false], bk b_18 61 [.int .i64 p.t.id, .int .i64 p.t.age, .int .i64 p.t.proc, .int .i64 p.t.began, .slice p.x.a0 p.t.calls.length p.x.c0, .slice p.x.a1 p.t.ans.length p.x.c1, .slice p.x.a2 p.t.rd.length p.x.c2, .slice p.x.a3 p.t.wr.length p.x.c3, .slice p.x.a4 p.t.marks.length p.x.c4, .int .i64 p.t.state], bk b_17 42 [.slice k.a0 k.store.length k.c0, .slice k.a1 k.txs.length k.c1, .slice k.dk.a k.dk.l.length k.dk.c, str k.dk.jt, .int .i64 k.dk.js, .int .i64 k.seq, .int .i64 k.next, .int .i64 k.time, .slice k.a2 k.hist.length k.c2, .slice k.a3 k.seen.length k.c3, .bool k.room]]) (fun w hw => hw.headR (r := ⟨.slice y_20.a1 y_20.txs.length y_20.c1, 61, 10, y_20.txs.length, y_20.txs.flatMap encX⟩) (A := y_20.txs.flatMap rdsX) 2 rfl) ?_
    have hln_30 : at_26 < y_20.txs.length := by omega
    refine JC.regionA [Res.row (.slice y_20.a1 y_20.txs.length y_20.c1) 61 10 y_20.txs.length (y_20.txs.flatMap encX), Res.rows (y_20.txs.flatMap rdsX), rC y_20.a0 y_20.c0 y_20.store, rS y_20.a3 y_20.c3 y_20.seen, Res.rows (rdsD y_20.dk), Res.rows (rdsES y_20.a2 y_20.c2 y_20.hist), bk b_23 42 [.slice y_20.a0 y_20.store.length y_20.c0, .slice y_20.a1 y_20.txs.length y_20.c1, .slice y_20.dk.a y_20.dk.l.length y_20.dk.c, str y_20.dk.jt, .int .i64 y_20.dk.js, .int .i64 y_20.seq, .int .i64 y_20.next, .int .i64 y_20.time, .slice y_20.a2 y_20.hist.length y_20.c2, .slice y_20.a3 y_20.seen.length y_20.c3, .bool y_20.room], bk b_19 42 [.slice none 0 0, .slice none 0 0, .slice none 0 0, str [], .int .i64 0, .int .i64 0, .int .i64 0, .int .i64 0, .slice none 0 0, .slice none 0 0, .bool false], bk b_18 61 [.int .i64 p.t.id, .int .i64 p.t.age, .int .i64 p.t.proc, .int .i64 p.t.began, .slice p.x.a0 p.t.calls.length p.x.c0, .slice p.x.a1 p.t.ans.length p.x.c1, .slice p.x.a2 p.t.rd.length p.x.c2, .slice p.x.a3 p.t.wr.length p.x.c3, .slice p.x.a4 p.t.marks.length p.x.c4, .int .i64 p.t.state], bk b_17 42 [.slice k.a0 k.store.length k.c0, .slice k.a1 k.txs.length k.c1, .slice k.dk.a k.dk.l.length k.dk.c, str k.dk.jt, .int .i64 k.dk.js, .int .i64 k.seq, .int .i64 k.next, .int .i64 k.time, .slice k.a2 k.hist.length k.c2, .slice k.a3 k.seen.length k.c3, .bool k.room]] 5 mixed (by simp) ?_
    refine JA.takeP 0 rfl (by kernel_rfl) (NP.th NP.body) (by kernel_rfl) (by kernel_rfl) rfl (PO.fieldAddr fo42_1 rfl) ?_
    refine JA.take 1 rfl (by kernel_rfl) (NP.th NP.body) (by kernel_rfl) (by kernel_rfl) (by kernel_rfl) rfl (LO.load1 6 (v := .slice y_20.a1 y_20.txs.length y_20.c1) rfl rfl Tryz.isAgg35 rfl) ?_
    refine JA.takeP 2 rfl (by kernel_rfl) (NP.th NP.body) (by kernel_rfl) (by kernel_rfl) rfl (PO.move (v := .int .i64 ((at_26 : Nat) : Int)) (congrArg (Value.int .i64) hat_27)) ?_
    refine JA.take 3 rfl (by kernel_rfl) (NP.th NP.body) (by kernel_rfl) (by kernel_rfl) (by kernel_rfl) rfl (LO.loadK 8 (vs := [.int .i64 p.t.id, .int .i64 p.t.age, .int .i64 p.t.proc, .int .i64 p.t.began, .slice p.x.a0 p.t.calls.length p.x.c0, .slice p.x.a1 p.t.ans.length p.x.c1, .slice p.x.a2 p.t.rd.length p.x.c2, .slice p.x.a3 p.t.wr.length p.x.c3, .slice p.x.a4 p.t.marks.length p.x.c4, .int .i64 p.t.state]) rfl rfl Tryz.isAgg61 Tryz.sizeOf61 rfl rfl) ?_
    refine JA.one (i := 4) (by kernel_rfl) ?_
    refine JX.op rfl rfl (JO.call [] Tryz.call65 rfl (Z_implTxclone p hp) rfl (fun w hw => hw.seeOutA hpre.2 nMA)) ?_
    rintro _ _ ⟨_, ⟨y_33, hy_34, rfl, rfl⟩, rfl⟩
    refine ⟨by simp, ?_⟩
    refine JA.facts fun hst => ?_
    obtain ⟨hr_35, hr_35b, -⟩ := row_some 1 rfl (by omega) hst
    refine JA.takeP 5 rfl (by kernel_rfl) (NP.th NP.body) (by kernel_rfl) (by kernel_rfl) rfl (PO.indexAddrV (i := at_26) Tryz.underlying35 Tryz.sizeOf61 hr_35 hr_35b rfl rfl (by omega)) ?_
    refine JA.one (i := 6) (by kernel_rfl) ?_
    refine JX.last rfl rfl (by decide) (by kernel_rfl) (JO.storeR 1 (vs := [.int .i64 y_33.t.id, .int .i64 y_33.t.age, .int .i64 y_33.t.proc, .int .i64 y_33.t.began, .slice y_33.x.a0 y_33.t.calls.length y_33.x.c0, .slice y_33.x.a1 y_33.t.ans.length y_33.x.c1, .slice y_33.x.a2 y_33.t.rd.length y_33.x.c2, .slice y_33.x.a3 y_33.t.wr.length y_33.x.c3, .slice y_33.x.a4 y_33.t.marks.length y_33.x.c4, .int .i64 y_33.t.state]) (cs' := (y_20.txs.set at_26 y_33).flatMap encX) rfl rfl rfl rfl Tryz.sizeOf61 rfl rfl (by decide) (by rw [flat_length encX_len]; omega) (flat_set encX_len y_20.txs at_26 y_33 (by omega))) ?_
    rintro _ _ rfl
    refine JQ.seq ?_
    refine JC.seq ?_
    refine JC.region ?_
    refine JL.ld rfl (LO.loadK 7 (vs := [.slice y_20.a0 y_20.store.length y_20.c0, .slice y_20.a1 y_20.txs.length y_20.c1, .slice y_20.dk.a y_20.dk.l.length y_20.dk.c, str y_20.dk.jt, .int .i64 y_20.dk.js, .int .i64 y_20.seq, .int .i64 y_20.next, .int .i64 y_20.time, .slice y_20.a2 y_20.hist.length y_20.c2, .slice y_20.a3 y_20.seen.length y_20.c3, .bool y_20.room]) rfl rfl Tryz.isAgg42 Tryz.sizeOf42 rfl rfl) ?_
    refine JL.op rfl (JO.store 8 (vs := [.slice y_20.a0 y_20.store.length y_20.c0, .slice y_20.a1 y_20.txs.length y_20.c1, .slice y_20.dk.a y_20.dk.l.length y_20.dk.c, str y_20.dk.jt, .int .i64 y_20.dk.js, .int .i64 y_20.seq, .int .i64 y_20.next, .int .i64 y_20.time, .slice y_20.a2 y_20.hist.length y_20.c2, .slice y_20.a3 y_20.seen.length y_20.c3, .bool y_20.room]) (cs' := [.slice y_20.a0 y_20.store.length y_20.c0, .slice y_20.a1 y_20.txs.length y_20.c1, .slice y_20.dk.a y_20.dk.l.length y_20.dk.c, str y_20.dk.jt, .int .i64 y_20.dk.js, .int .i64 y_20.seq, .int .i64 y_20.next, .int .i64 y_20.time, .slice y_20.a2 y_20.hist.length y_20.c2, .slice y_20.a3 y_20.seen.length y_20.c3, .bool y_20.room]) rfl rfl rfl rfl Tryz.sizeOf42 rfl rfl (Nat.le_of_ble_eq_true rfl) rfl) ?_
    rintro _ _ rfl
    refine JL.nil ?_
    refine JQ.seq ?_
    refine JC.ret ?_
    refine JQ.ghost (L' := [Res.rows ((y_20.txs.set at_26 y_33).flatMap rdsX), Res.rows (rdsX (y_20.txs.getD at_26 x0)), Res.row (.slice y_20.a1 y_20.txs.length y_20.c1) 61 10 y_20.txs.length ((y_20.txs.set at_26 y_33).flatMap encX), rC y_20.a0 y_20.c0 y_20.store, rS y_20.a3 y_20.c3 y_20.seen, Res.rows (rdsD y_20.dk), Res.rows (rdsES y_20.a2 y_20.c2 y_20.hist), bk b_23 42 [.slice y_20.a0 y_20.store.length y_20.c0, .slice y_20.a1 y_20.txs.length y_20.c1, .slice y_20.dk.a y_20.dk.l.length y_20.dk.c, str y_20.dk.jt, .int .i64 y_20.dk.js, .int .i64 y_20.seq, .int .i64 y_20.next, .int .i64 y_20.time, .slice y_20.a2 y_20.hist.length y_20.c2, .slice y_20.a3 y_20.seen.length y_20.c3, .bool y_20.room], bk b_19 42 [.slice y_20.a0 y_20.store.length y_20.c0, .slice y_20.a1 y_20.txs.length y_20.c1, .slice y_20.dk.a y_20.dk.l.length y_20.dk.c, str y_20.dk.jt, .int .i64 y_20.dk.js, .int .i64 y_20.seq, .int .i64 y_20.next, .int .i64 y_20.time, .slice y_20.a2 y_20.hist.length y_20.c2, .slice y_20.a3 y_20.seen.length y_20.c3, .bool y_20.room], bk b_18 61 [.int .i64 p.t.id, .int .i64 p.t.age, .int .i64 p.t.proc, .int .i64 p.t.began, .slice p.x.a0 p.t.calls.length p.x.c0, .slice p.x.a1 p.t.ans.length p.x.c1, .slice p.x.a2 p.t.rd.length p.x.c2, .slice p.x.a3 p.t.wr.length p.x.c3, .slice p.x.a4 p.t.marks.length p.x.c4, .int .i64 p.t.state], bk b_17 42 [.slice k.a0 k.store.length k.c0, .slice k.a1 k.txs.length k.c1, .slice k.dk.a k.dk.l.length k.dk.c, str k.dk.jt, .int .i64 k.dk.js, .int .i64 k.seq, .int .i64 k.next, .int .i64 k.time, .slice k.a2 k.hist.length k.c2, .slice k.a3 k.seen.length k.c3, .bool k.room]]) (fun w hw => St.joinR [0, 2, 1] rfl (flatMap_setAt hln_30) (St.splitR 2 rfl (flatMap_at x0 hln_30) hw)) ?_
    refine JQ.ghost (L' := [Res.rows ((y_20.txs.set at_26 y_33).flatMap rdsX), Res.rows (rdsX (y_20.txs.getD at_26 x0)), Res.row (.slice y_20.a1 ((y_20.txs.set at_26 y_33).length) y_20.c1) 61 10 ((y_20.txs.set at_26 y_33).length) ((y_20.txs.set at_26 y_33).flatMap encX), rC y_20.a0 y_20.c0 y_20.store, rS y_20.a3 y_20.c3 y_20.seen, Res.rows (rdsD y_20.dk), Res.rows (rdsES y_20.a2 y_20.c2 y_20.hist), bk b_23 42 [.slice y_20.a0 y_20.store.length y_20.c0, .slice y_20.a1 y_20.txs.length y_20.c1, .slice y_20.dk.a y_20.dk.l.length y_20.dk.c, str y_20.dk.jt, .int .i64 y_20.dk.js, .int .i64 y_20.seq, .int .i64 y_20.next, .int .i64 y_20.time, .slice y_20.a2 y_20.hist.length y_20.c2, .slice y_20.a3 y_20.seen.length y_20.c3, .bool y_20.room], bk b_19 42 [.slice y_20.a0 y_20.store.length y_20.c0, .slice y_20.a1 y_20.txs.length y_20.c1, .slice y_20.dk.a y_20.dk.l.length y_20.dk.c, str y_20.dk.jt, .int .i64 y_20.dk.js, .int .i64 y_20.seq, .int .i64 y_20.next, .int .i64 y_20.time, .slice y_20.a2 y_20.hist.length y_20.c2, .slice y_20.a3 y_20.seen.length y_20.c3, .bool y_20.room], bk b_18 61 [.int .i64 p.t.id, .int .i64 p.t.age, .int .i64 p.t.proc, .int .i64 p.t.began, .slice p.x.a0 p.t.calls.length p.x.c0, .slice p.x.a1 p.t.ans.length p.x.c1, .slice p.x.a2 p.t.rd.length p.x.c2, .slice p.x.a3 p.t.wr.length p.x.c3, .slice p.x.a4 p.t.marks.length p.x.c4, .int .i64 p.t.state], bk b_17 42 [.slice k.a0 k.store.length k.c0, .slice k.a1 k.txs.length k.c1, .slice k.dk.a k.dk.l.length k.dk.c, str k.dk.jt, .int .i64 k.dk.js, .int .i64 k.seq, .int .i64 k.next, .int .i64 k.time, .slice k.a2 k.hist.length k.c2, .slice k.a3 k.seen.length k.c3, .bool k.room]]) (fun w hw => hw.eqL (by simp only [List.length_set] <;> rfl)) ?_
    refine JQ.ghost (L' := [Res.rows (rdsXS y_20.a1 y_20.c1 (y_20.txs.set at_26 y_33)), Res.rows (rdsX (y_20.txs.getD at_26 x0)), rC y_20.a0 y_20.c0 y_20.store, rS y_20.a3 y_20.c3 y_20.seen, Res.rows (rdsD y_20.dk), Res.rows (rdsES y_20.a2 y_20.c2 y_20.hist), bk b_23 42 [.slice y_20.a0 y_20.store.length y_20.c0, .slice y_20.a1 y_20.txs.length y_20.c1, .slice y_20.dk.a y_20.dk.l.length y_20.dk.c, str y_20.dk.jt, .int .i64 y_20.dk.js, .int .i64 y_20.seq, .int .i64 y_20.next, .int .i64 y_20.time, .slice y_20.a2 y_20.hist.length y_20.c2, .slice y_20.a3 y_20.seen.length y_20.c3, .bool y_20.room], bk b_19 42 [.slice y_20.a0 y_20.store.length y_20.c0, .slice y_20.a1 y_20.txs.length y_20.c1, .slice y_20.dk.a y_20.dk.l.length y_20.dk.c, str y_20.dk.jt, .int .i64 y_20.dk.js, .int .i64 y_20.seq, .int .i64 y_20.next, .int .i64 y_20.time, .slice y_20.a2 y_20.hist.length y_20.c2, .slice y_20.a3 y_20.seen.length y_20.c3, .bool y_20.room], bk b_18 61 [.int .i64 p.t.id, .int .i64 p.t.age, .int .i64 p.t.proc, .int .i64 p.t.began, .slice p.x.a0 p.t.calls.length p.x.c0, .slice p.x.a1 p.t.ans.length p.x.c1, .slice p.x.a2 p.t.rd.length p.x.c2, .slice p.x.a3 p.t.wr.length p.x.c3, .slice p.x.a4 p.t.marks.length p.x.c4, .int .i64 p.t.state], bk b_17 42 [.slice k.a0 k.store.length k.c0, .slice k.a1 k.txs.length k.c1, .slice k.dk.a k.dk.l.length k.dk.c, str k.dk.jt, .int .i64 k.dk.js, .int .i64 k.seq, .int .i64 k.next, .int .i64 k.time, .slice k.a2 k.hist.length k.c2, .slice k.a3 k.seen.length k.c3, .bool k.room]]) (fun w hw => hw.consR (r := ⟨.slice y_20.a1 ((y_20.txs.set at_26 y_33).length) y_20.c1, 61, 10, (y_20.txs.set at_26 y_33).length, (y_20.txs.set at_26 y_33).flatMap encX⟩) (A := (y_20.txs.set at_26 y_33).flatMap rdsX) [2, 0] rfl) ?_
    refine JQ.ghost (L' := [Res.rows (rdsN (⟨y_20.a0, y_20.c0, y_20.store, y_20.a1, y_20.c1, y_20.txs.set at_26 y_33, y_20.dk, y_20.seq, y_20.next, y_20.time, y_20.a2, y_20.c2, y_20.hist, y_20.a3, y_20.c3, y_20.seen, y_20.room⟩ : KX)), Res.rows (rdsX (y_20.txs.getD at_26 x0)), bk b_23 42 [.slice y_20.a0 y_20.store.length y_20.c0, .slice y_20.a1 y_20.txs.length y_20.c1, .slice y_20.dk.a y_20.dk.l.length y_20.dk.c, str y_20.dk.jt, .int .i64 y_20.dk.js, .int .i64 y_20.seq, .int .i64 y_20.next, .int .i64 y_20.time, .slice y_20.a2 y_20.hist.length y_20.c2, .slice y_20.a3 y_20.seen.length y_20.c3, .bool y_20.room], bk b_19 42 [.slice y_20.a0 y_20.store.length y_20.c0, .slice y_20.a1 y_20.txs.length y_20.c1, .slice y_20.dk.a y_20.dk.l.length y_20.dk.c, str y_20.dk.jt, .int .i64 y_20.dk.js, .int .i64 y_20.seq, .int .i64 y_20.next, .int .i64 y_20.time, .slice y_20.a2 y_20.hist.length y_20.c2, .slice y_20.a3 y_20.seen.length y_20.c3, .bool y_20.room], bk b_18 61 [.int .i64 p.t.id, .int .i64 p.t.age, .int .i64 p.t.proc, .int .i64 p.t.began, .slice p.x.a0 p.t.calls.length p.x.c0, .slice p.x.a1 p.t.ans.length p.x.c1, .slice p.x.a2 p.t.rd.length p.x.c2, .slice p.x.a3 p.t.wr.length p.x.c3, .slice p.x.a4 p.t.marks.length p.x.c4, .int .i64 p.t.state], bk b_17 42 [.slice k.a0 k.store.length k.c0, .slice k.a1 k.txs.length k.c1, .slice k.dk.a k.dk.l.length k.dk.c, str k.dk.jt, .int .i64 k.dk.js, .int .i64 k.seq, .int .i64 k.next, .int .i64 k.time, .slice k.a2 k.hist.length k.c2, .slice k.a3 k.seen.length k.c3, .bool k.room]]) (fun w hw => hw.gathN [2, 2, 0, 1, 1] rfl) ?_
    refine Done.one (.inl rfl) rfl (RV.cell1 (LO.loadK 3 (vs := [.slice y_20.a0 y_20.store.length y_20.c0, .slice y_20.a1 y_20.txs.length y_20.c1, .slice y_20.dk.a y_20.dk.l.length y_20.dk.c, str y_20.dk.jt, .int .i64 y_20.dk.js, .int .i64 y_20.seq, .int .i64 y_20.next, .int .i64 y_20.time, .slice y_20.a2 y_20.hist.length y_20.c2, .slice y_20.a3 y_20.seen.length y_20.c3, .bool y_20.room]) rfl rfl Tryz.isAgg42 Tryz.sizeOf42 rfl rfl) ⟨_, rfl⟩) (List.sublist_append_left [Res.rows (rdsN (⟨y_20.a0, y_20.c0, y_20.store, y_20.a1, y_20.c1, y_20.txs.set at_26 y_33, y_20.dk, y_20.seq, y_20.next, y_20.time, y_20.a2, y_20.c2, y_20.hist, y_20.a3, y_20.c3, y_20.seen, y_20.room⟩ : KX))] [Res.rows (rdsX (y_20.txs.getD at_26 x0)), bk b_23 42 [.slice y_20.a0 y_20.store.length y_20.c0, .slice y_20.a1 y_20.txs.length y_20.c1, .slice y_20.dk.a y_20.dk.l.length y_20.dk.c, str y_20.dk.jt, .int .i64 y_20.dk.js, .int .i64 y_20.seq, .int .i64 y_20.next, .int .i64 y_20.time, .slice y_20.a2 y_20.hist.length y_20.c2, .slice y_20.a3 y_20.seen.length y_20.c3, .bool y_20.room], bk b_19 42 [.slice y_20.a0 y_20.store.length y_20.c0, .slice y_20.a1 y_20.txs.length y_20.c1, .slice y_20.dk.a y_20.dk.l.length y_20.dk.c, str y_20.dk.jt, .int .i64 y_20.dk.js, .int .i64 y_20.seq, .int .i64 y_20.next, .int .i64 y_20.time, .slice y_20.a2 y_20.hist.length y_20.c2, .slice y_20.a3 y_20.seen.length y_20.c3, .bool y_20.room], bk b_18 61 [.int .i64 p.t.id, .int .i64 p.t.age, .int .i64 p.t.proc, .int .i64 p.t.began, .slice p.x.a0 p.t.calls.length p.x.c0, .slice p.x.a1 p.t.ans.length p.x.c1, .slice p.x.a2 p.t.rd.length p.x.c2, .slice p.x.a3 p.t.wr.length p.x.c3, .slice p.x.a4 p.t.marks.length p.x.c4, .int .i64 p.t.state], bk b_17 42 [.slice k.a0 k.store.length k.c0, .slice k.a1 k.txs.length k.c1, .slice k.dk.a k.dk.l.length k.dk.c, str k.dk.jt, .int .i64 k.dk.js, .int .i64 k.seq, .int .i64 k.next, .int .i64 k.time, .slice k.a2 k.hist.length k.c2, .slice k.a3 k.seen.length k.c3, .bool k.room]]) ?_
    have hdat : (⟨y_20.a0, y_20.c0, y_20.store, y_20.a1, y_20.c1, y_20.txs.set at_26 y_33, y_20.dk, y_20.seq, y_20.next, y_20.time, y_20.a2, y_20.c2, y_20.hist, y_20.a3, y_20.c3, y_20.seen, y_20.room⟩ : KX).dat = y_20.dat.setTx at_26 y_33.t := by simp only [KX.dat, KD.setTx, map_setT]
    exact ⟨(⟨y_20.a0, y_20.c0, y_20.store, y_20.a1, y_20.c1, y_20.txs.set at_26 y_33, y_20.dk, y_20.seq, y_20.next, y_20.time, y_20.a2, y_20.c2, y_20.hist, y_20.a3, y_20.c3, y_20.seen, y_20.room⟩ : KX), by rw [hdat, hy_34]; first | (rw [hy_21]; exact (KD.withT_pos (k := k.dat) hat_27).symm) | (rw [← hy_21]; exact (KD.withT_pos (k := y_20.dat) hat_27).symm), by rw [List.length_set], rfl⟩
  · skip
    refine JC.condF (congrArg Value.bool (decide_eq_false h_25)) ?_
    refine JC.skip ?_
    refine JQ.seq ?_
    refine JC.seq ?_
    refine JC.region ?_
    refine JL.ld rfl (LO.loadK 0 (vs := [.slice y_20.a0 y_20.store.length y_20.c0, .slice y_20.a1 y_20.txs.length y_20.c1, .slice y_20.dk.a y_20.dk.l.length y_20.dk.c, str y_20.dk.jt, .int .i64 y_20.dk.js, .int .i64 y_20.seq, .int .i64 y_20.next, .int .i64 y_20.time, .slice y_20.a2 y_20.hist.length y_20.c2, .slice y_20.a3 y_20.seen.length y_20.c3, .bool y_20.room]) rfl rfl Tryz.isAgg42 Tryz.sizeOf42 rfl rfl) ?_
    refine JL.op rfl (JO.store 2 (vs := [.slice y_20.a0 y_20.store.length y_20.c0, .slice y_20.a1 y_20.txs.length y_20.c1, .slice y_20.dk.a y_20.dk.l.length y_20.dk.c, str y_20.dk.jt, .int .i64 y_20.dk.js, .int .i64 y_20.seq, .int .i64 y_20.next, .int .i64 y_20.time, .slice y_20.a2 y_20.hist.length y_20.c2, .slice y_20.a3 y_20.seen.length y_20.c3, .bool y_20.room]) (cs' := [.slice y_20.a0 y_20.store.length y_20.c0, .slice y_20.a1 y_20.txs.length y_20.c1, .slice y_20.dk.a y_20.dk.l.length y_20.dk.c, str y_20.dk.jt, .int .i64 y_20.dk.js, .int .i64 y_20.seq, .int .i64 y_20.next, .int .i64 y_20.time, .slice y_20.a2 y_20.hist.length y_20.c2, .slice y_20.a3 y_20.seen.length y_20.c3, .bool y_20.room]) rfl rfl rfl rfl Tryz.sizeOf42 rfl rfl (Nat.le_of_ble_eq_true rfl) rfl) ?_
    rintro _ _ rfl
    refine JL.nil ?_
    refine JQ.seq ?_
    refine JC.ret ?_
    refine JQ.perm (pick_perm [1] (A := [Res.rows (rdsN y_20)]) (F := [bk b_23 42 [.slice y_20.a0 y_20.store.length y_20.c0, .slice y_20.a1 y_20.txs.length y_20.c1, .slice y_20.dk.a y_20.dk.l.length y_20.dk.c, str y_20.dk.jt, .int .i64 y_20.dk.js, .int .i64 y_20.seq, .int .i64 y_20.next, .int .i64 y_20.time, .slice y_20.a2 y_20.hist.length y_20.c2, .slice y_20.a3 y_20.seen.length y_20.c3, .bool y_20.room], bk b_19 42 [.slice y_20.a0 y_20.store.length y_20.c0, .slice y_20.a1 y_20.txs.length y_20.c1, .slice y_20.dk.a y_20.dk.l.length y_20.dk.c, str y_20.dk.jt, .int .i64 y_20.dk.js, .int .i64 y_20.seq, .int .i64 y_20.next, .int .i64 y_20.time, .slice y_20.a2 y_20.hist.length y_20.c2, .slice y_20.a3 y_20.seen.length y_20.c3, .bool y_20.room], bk b_18 61 [.int .i64 p.t.id, .int .i64 p.t.age, .int .i64 p.t.proc, .int .i64 p.t.began, .slice p.x.a0 p.t.calls.length p.x.c0, .slice p.x.a1 p.t.ans.length p.x.c1, .slice p.x.a2 p.t.rd.length p.x.c2, .slice p.x.a3 p.t.wr.length p.x.c3, .slice p.x.a4 p.t.marks.length p.x.c4, .int .i64 p.t.state], bk b_17 42 [.slice k.a0 k.store.length k.c0, .slice k.a1 k.txs.length k.c1, .slice k.dk.a k.dk.l.length k.dk.c, str k.dk.jt, .int .i64 k.dk.js, .int .i64 k.seq, .int .i64 k.next, .int .i64 k.time, .slice k.a2 k.hist.length k.c2, .slice k.a3 k.seen.length k.c3, .bool k.room]]) rfl).symm ?_
    refine Done.one (.inl rfl) rfl (RV.cell1 (LO.loadK 2 (vs := [.slice y_20.a0 y_20.store.length y_20.c0, .slice y_20.a1 y_20.txs.length y_20.c1, .slice y_20.dk.a y_20.dk.l.length y_20.dk.c, str y_20.dk.jt, .int .i64 y_20.dk.js, .int .i64 y_20.seq, .int .i64 y_20.next, .int .i64 y_20.time, .slice y_20.a2 y_20.hist.length y_20.c2, .slice y_20.a3 y_20.seen.length y_20.c3, .bool y_20.room]) rfl rfl Tryz.isAgg42 Tryz.sizeOf42 rfl rfl) ⟨_, rfl⟩) (List.sublist_append_left [Res.rows (rdsN y_20)] [bk b_23 42 [.slice y_20.a0 y_20.store.length y_20.c0, .slice y_20.a1 y_20.txs.length y_20.c1, .slice y_20.dk.a y_20.dk.l.length y_20.dk.c, str y_20.dk.jt, .int .i64 y_20.dk.js, .int .i64 y_20.seq, .int .i64 y_20.next, .int .i64 y_20.time, .slice y_20.a2 y_20.hist.length y_20.c2, .slice y_20.a3 y_20.seen.length y_20.c3, .bool y_20.room], bk b_19 42 [.slice y_20.a0 y_20.store.length y_20.c0, .slice y_20.a1 y_20.txs.length y_20.c1, .slice y_20.dk.a y_20.dk.l.length y_20.dk.c, str y_20.dk.jt, .int .i64 y_20.dk.js, .int .i64 y_20.seq, .int .i64 y_20.next, .int .i64 y_20.time, .slice y_20.a2 y_20.hist.length y_20.c2, .slice y_20.a3 y_20.seen.length y_20.c3, .bool y_20.room], bk b_18 61 [.int .i64 p.t.id, .int .i64 p.t.age, .int .i64 p.t.proc, .int .i64 p.t.began, .slice p.x.a0 p.t.calls.length p.x.c0, .slice p.x.a1 p.t.ans.length p.x.c1, .slice p.x.a2 p.t.rd.length p.x.c2, .slice p.x.a3 p.t.wr.length p.x.c3, .slice p.x.a4 p.t.marks.length p.x.c4, .int .i64 p.t.state], bk b_17 42 [.slice k.a0 k.store.length k.c0, .slice k.a1 k.txs.length k.c1, .slice k.dk.a k.dk.l.length k.dk.c, str k.dk.jt, .int .i64 k.dk.js, .int .i64 k.seq, .int .i64 k.next, .int .i64 k.time, .slice k.a2 k.hist.length k.c2, .slice k.a3 k.seen.length k.c3, .bool k.room]]) ?_
    exact ⟨y_20, by first | (rw [hy_21]; exact (KD.withT_neg (k := k.dat) h_25).symm) | (rw [← hy_21]; exact (KD.withT_neg (k := y_20.dat) h_25).symm), rfl, rfl⟩

set_option maxRecDepth 4000 in
set_option maxHeartbeats 1000000 in
theorem Z_specWithTx (k : KX) (p : TX) (hl : k.dat.lim 1000000000) (hp : p.t.lim 1000000000) :
    Ct Tryz.prog 16 [.agg #[.slice k.a0 k.store.length k.c0, .slice k.a1 k.txs.length k.c1, .slice k.dk.a k.dk.l.length k.dk.c, str k.dk.jt, .int .i64 k.dk.js, .int .i64 k.seq, .int .i64 k.next, .int .i64 k.time, .slice k.a2 k.hist.length k.c2, .slice k.a3 k.seen.length k.c3, .bool k.room], .agg #[.int .i64 p.t.id, .int .i64 p.t.age, .int .i64 p.t.proc, .int .i64 p.t.began, .slice p.x.a0 p.t.calls.length p.x.c0, .slice p.x.a1 p.t.ans.length p.x.c1, .slice p.x.a2 p.t.rd.length p.x.c2, .slice p.x.a3 p.t.wr.length p.x.c3, .slice p.x.a4 p.t.marks.length p.x.c4, .int .i64 p.t.state]] [] (fun w => SeesA w (rdsN k) ∧ SeesA w (rdsX p)) (fun v A' => ∃ y : KX, y.dat = k.dat.withT p.t ∧ v = .agg #[.slice y.a0 y.store.length y.c0, .slice y.a1 y.txs.length y.c1, .slice y.dk.a y.dk.l.length y.dk.c, str y.dk.jt, .int .i64 y.dk.js, .int .i64 y.seq, .int .i64 y.next, .int .i64 y.time, .slice y.a2 y.hist.length y.c2, .slice y.a3 y.seen.length y.c3, .bool y.room] ∧ A' = [.rows (rdsN y)]) := by
  refine Ct.intro Tryz.func16 rfl Tryz.ntmps16 (Nat.le_of_ble_eq_true rfl) fun w0 hpre => ?_
  obtain ⟨hs_1, hs_2, hs_3, hs_4, hs_5⟩ := seesN hpre.1
  have hs_6 : Sees w0 (.slice k.a1 k.txs.length k.c1) 10 k.txs.length (k.txs.flatMap encX) := (hs_3).head
  have hi_7 : SeesA w0 (k.txs.flatMap rdsX) := (hs_3).tail
  have hs_8 : Sees w0 (.slice k.dk.a k.dk.l.length k.dk.c) 3 k.dk.l.length (k.dk.l.flatMap encO) := (hs_4).head
  have hi_9 : SeesA w0 (k.dk.l.flatMap rdsO) := (hs_4).tail
  have hs_10 : Sees w0 (.slice k.a2 k.hist.length k.c2) 8 k.hist.length (k.hist.flatMap encE) := (hs_5).head
  have hi_11 : SeesA w0 (k.hist.flatMap rdsE) := (hs_5).tail
  obtain ⟨hs_12, hs_13, hs_14, hs_15, hs_16⟩ := seesX hpre.2
  have hm0 : k.store.length ≤ 1000000000 := hl.l0
  have hm6 : k.seen.length ≤ 1000000000 := hl.l6
  have hm1 : k.txs.length ≤ 1000000000 := by have := hl.l1; simpa only [KX.dat, List.length_map] using this
  have hm2 : ∀ q ∈ k.txs, q.t.lim 1000000000 := fun q hq => hl.l2 _ (List.mem_map_of_mem hq)
  have hm4 : k.hist.length ≤ 1000000000 := by have := hl.l4; simpa only [KX.dat, List.length_map] using this
  have hm5 : ∀ q ∈ k.hist, q.t.lim 1000000000 := fun q hq => hl.l5 _ (List.mem_map_of_mem hq)
  refine JC.seq ?_
  refine JC.region ?_
  refine JL.op rfl (JO.box (cs := [.slice k.a0 k.store.length k.c0, .slice k.a1 k.txs.length k.c1, .slice k.dk.a k.dk.l.length k.dk.c, str k.dk.jt, .int .i64 k.dk.js, .int .i64 k.seq, .int .i64 k.next, .int .i64 k.time, .slice k.a2 k.hist.length k.c2, .slice k.a3 k.seen.length k.c3, .bool k.room]) rfl rfl) ?_
  rintro _ _ ⟨b_17, rfl, rfl⟩
  refine JL.op rfl (JO.box (cs := [.int .i64 p.t.id, .int .i64 p.t.age, .int .i64 p.t.proc, .int .i64 p.t.began, .slice p.x.a0 p.t.calls.length p.x.c0, .slice p.x.a1 p.t.ans.length p.x.c1, .slice p.x.a2 p.t.rd.length p.x.c2, .slice p.x.a3 p.t.wr.length p.x.c3, .slice p.x.a4 p.t.marks.length p.x.c4, .int .i64 p.t.state]) rfl rfl) ?_
  rintro _ _ ⟨b_18, rfl, rfl⟩
  refine JL.op rfl (JO.alloc (z := .agg #[.slice none 0 0, .slice none 0 0, .slice none 0 0, str [], .int .i64 0, .int .i64 0, .int .i64 0, .int .i64 0, .slice none 0 0, .slice none 0 0, .bool false]) (cs := [.slice none 0 0, .slice none 0 0, .slice none 0 0, str [], .int .i64 0, .int .i64 0, .int .i64 0, .int .i64 0, .slice none 0 0, .slice none 0 0, .bool false]) Tryz.zeroValue42 rfl) ?_
  rintro _ _ ⟨b_19, rfl, rfl⟩
  refine JL.nil ?_
  refine JQ.seq ?_
  refine JC.seq ?_
  refine JC.region ?_
  refine JL.ld rfl (LO.loadK 2 (vs := [.slice k.a0 k.store.length k.c0, .slice k.a1 k.txs.length k.c1, .slice k.dk.a k.dk.l.length k.dk.c, str k.dk.jt, .int .i64 k.dk.js, .int .i64 k.seq, .int .i64 k.next, .int .i64 k.time, .slice k.a2 k.hist.length k.c2, .slice k.a3 k.seen.length k.c3, .bool k.room]) rfl rfl Tryz.isAgg42 Tryz.sizeOf42 rfl rfl) ?_
  refine JL.op rfl (JO.call [] Tryz.call32 rfl (Z_specl26Copy k hl) rfl (fun w hw => hw.seeOutA hpre.1 nMA)) ?_
  rintro _ _ ⟨_, ⟨y_20, hy_21, rfl, rfl⟩, rfl⟩
  have hyl_22 := KX.txs_len hy_21
  refine JL.op rfl (JO.store 3 (vs := [.slice y_20.a0 y_20.store.length y_20.c0, .slice y_20.a1 y_20.txs.length y_20.c1, .slice y_20.dk.a y_20.dk.l.length y_20.dk.c, str y_20.dk.jt, .int .i64 y_20.dk.js, .int .i64 y_20.seq, .int .i64 y_20.next, .int .i64 y_20.time, .slice y_20.a2 y_20.hist.length y_20.c2, .slice y_20.a3 y_20.seen.length y_20.c3, .bool y_20.room]) (cs' := [.slice y_20.a0 y_20.store.length y_20.c0, .slice y_20.a1 y_20.txs.length y_20.c1, .slice y_20.dk.a y_20.dk.l.length y_20.dk.c, str y_20.dk.jt, .int .i64 y_20.dk.js, .int .i64 y_20.seq, .int .i64 y_20.next, .int .i64 y_20.time, .slice y_20.a2 y_20.hist.length y_20.c2, .slice y_20.a3 y_20.seen.length y_20.c3, .bool y_20.room]) rfl rfl rfl rfl Tryz.sizeOf42 rfl rfl (Nat.le_of_ble_eq_true rfl) rfl) ?_
  rintro _ _ rfl
  refine JL.nil ?_
  refine JQ.seq ?_
  refine JC.seq ?_
  refine JC.region ?_
  refine JL.pure rfl (PO.fieldAddr fo42_1 rfl) ?_
  refine JL.ld rfl (LO.load1 3 (v := .slice y_20.a1 y_20.txs.length y_20.c1) rfl rfl Tryz.isAgg35 rfl) ?_
  refine JL.pure rfl (PO.fieldAddr fo61_0 rfl) ?_
  refine JL.ld rfl (LO.load1 2 (v := .int .i64 p.t.id) rfl rfl Tryz.isAgg3 rfl) ?_
  refine JL.op rfl (JO.call [] Tryz.call58 rfl (N_sFindTx y_20.a1 y_20.c1 y_20.txs (by (try simp only [List.length_take]); omega) p.t.id) rfl (fun w hw => (seesN (hw.seeRows 0 rfl)).2.2.1.head)) ?_
  rintro _ _ ⟨_, ⟨rfl, rfl⟩, rfl⟩
  have hlo_23 := idxT_lo (fun t => t.id = p.t.id) (y_20.txs.map TX.t)
  refine JL.pure rfl (PO.assign (v := .int .i64 (findT (y_20.txs.map TX.t) p.t.id)) rfl) ?_
  refine JL.nil ?_
  refine JQ.seq ?_
  refine JC.seq ?_
  refine JC.seq ?_
  refine JC.region ?_
  refine JL.pure rfl (PO.move (v := .int .i64 (findT (y_20.txs.map TX.t) p.t.id)) rfl) ?_
  refine JL.pure rfl (PO.geq rfl rfl) ?_
  refine JL.nil ?_
  refine JQ.seq ?_
  by_cases h_24 : 0 ≤ (findT (y_20.txs.map TX.t) p.t.id)
  · skip
    obtain ⟨at_25, hat_26⟩ : ∃ n_ : Nat, findT (y_20.txs.map TX.t) p.t.id = ((n_ : Nat) : Int) := ⟨(findT (y_20.txs.map TX.t) p.t.id).toNat, by omega⟩
    have hlt_27 := idxT_lt hat_26
    refine JC.condT (congrArg Value.bool (decide_eq_true h_24)) ?_
    refine JC.ghost (L' := [rC y_20.a0 y_20.c0 y_20.store, rS y_20.a3 y_20.c3 y_20.seen, Res.rows (rdsXS y_20.a1 y_20.c1 y_20.txs), Res.rows (rdsD y_20.dk), Res.rows (rdsES y_20.a2 y_20.c2 y_20.hist), bk b_19 42 [.slice none 0 0, .slice none 0 0, .slice none 0 0, str [], .int .i64 0, .int .i64 0, .int .i64 0, .int .i64 0, .slice none 0 0, .slice none 0 0, .bool false], bk b_18 61 [.int .i64 p.t.id, .int .i64 p.t.age, .int .i64 p.t.proc, .int .i64 p.t.began, .slice p.x.a0 p.t.calls.length p.x.c0, .slice p.x.a1 p.t.ans.length p.x.c1, .slice p.x.a2 p.t.rd.length p.x.c2, .slice p.x.a3 p.t.wr.length p.x.c3, .slice p.x.a4 p.t.marks.length p.x.c4, .int .i64 p.t.state], bk b_17 42 [.slice y_20.a0 y_20.store.length y_20.c0, .slice y_20.a1 y_20.txs.length y_20.c1, .slice y_20.dk.a y_20.dk.l.length y_20.dk.c, str y_20.dk.jt, .int .i64 y_20.dk.js, .int .i64 y_20.seq, .int .i64 y_20.next, .int .i64 y_20.time, .slice y_20.a2 y_20.hist.length y_20.c2, .slice y_20.a3 y_20.seen.length y_20.c3, .bool y_20.room]]) (fun w hw => St.openN (St.perm hw (pick_perm [0] (A := [Res.rows (rdsN y_20)]) (F := [bk b_19 42 [.slice none 0 0, .slice none 0 0, .slice none 0 0, str [], .int .i64 0, .int .i64 0, .int .i64 0, .int .i64 0, .slice none 0 0, .slice none 0 0, .bool false], bk b_18 61 [.int .i64 p.t.id, .int .i64 p.t.age, .int .i64 p.t.proc, .int .i64 p.t.began, .slice p.x.a0 p.t.calls.length p.x.c0, .slice p.x.a1 p.t.ans.length p.x.c1, .slice p.x.a2 p.t.rd.length p.x.c2, .slice p.x.a3 p.t.wr.length p.x.c3, .slice p.x.a4 p.t.marks.length p.x.c4, .int .i64 p.t.state], bk b_17 42 [.slice y_20.a0 y_20.store.length y_20.c0, .slice y_20.a1 y_20.txs.length y_20.c1, .slice y_20.dk.a y_20.dk.l.length y_20.dk.c, str y_20.dk.jt, .int .i64 y_20.dk.js, .int .i64 y_20.seq, .int .i64 y_20.next, .int .i64 y_20.time, .slice y_20.a2 y_20.hist.length y_20.c2, .slice y_20.a3 y_20.seen.length y_20.c3, .bool y_20.room]]) rfl).symm)) ?_
    refine JC.ghost (L' := [Res.row (.slice y_20.a1 y_20.txs.length y_20.c1) 61 10 y_20.txs.length (y_20.txs.flatMap encX), Res.rows (y_20.txs.flatMap rdsX), rC y_20.a0 y_20.c0 y_20.store, rS y_20.a3 y_20.c3 y_20.seen, Res.rows (rdsD y_20.dk), Res.rows (rdsES y_20.a2 y_20.c2 y_20.hist), bk b_19 42 [.slice none 0 0, .slice none 0 0, .slice none 0 0, str [], .int .i64 0, .int .i64 0, .int .i64 0, .int .i64 0, .slice none 0 0, .slice none 0 0, .bool false], bk b_18 61 [.int .i64 p.t.id, .int .i64 p.t.age, .int .i64 p.t.proc, .int .i64 p.t.began, .slice p.x.a0 p.t.calls.length p.x.c0, .slice p.x.a1 p.t.ans.length p.x.c1, .slice p.x.a2 p.t.rd.length p.x.c2, .slice p.x.a3 p.t.wr.length p.x.c3, .slice p.x.a4 p.t.marks.length p.x.c4, .int .i64 p.t.state], bk b_17 42 [.slice y_20.a0 y_20.store.length y_20.c0, .slice y_20.a1 y_20.txs.length y_20.c1, .slice y_20.dk.a y_20.dk.l.length y_20.dk.c, str y_20.dk.jt, .int .i64 y_20.dk.js, .int .i64 y_20.seq, .int .i64 y_20.next, .int .i64 y_20.time, .slice y_20.a2 y_20.hist.length y_20.c2, .slice y_20.a3 y_20.seen.length y_20.c3, .bool y_20.room]]) (fun w hw => hw.headR (r := ⟨.slice y_20.a1 y_20.txs.length y_20.c1, 61, 10, y_20.txs.length, y_20.txs.flatMap encX⟩) (A := y_20.txs.flatMap rdsX) 2 rfl) ?_
    refine JC.regionA [Res.row (.slice y_20.a1 y_20.txs.length y_20.c1) 61 10 y_20.txs.length (y_20.txs.flatMap encX), Res.rows (y_20.txs.flatMap rdsX), rC y_20.a0 y_20.c0 y_20.store, rS y_20.a3 y_20.c3 y_20.seen, Res.rows (rdsD y_20.dk), Res.rows (rdsES y_20.a2 y_20.c2 y_20.hist), bk b_19 42 [.slice none 0 0, .slice none 0 0, .slice none 0 0, str [], .int .i64 0, .int .i64 0, .int .i64 0, .int .i64 0, .slice none 0 0, .slice none 0 0, .bool false], bk b_18 61 [.int .i64 p.t.id, .int .i64 p.t.age, .int .i64 p.t.proc, .int .i64 p.t.began, .slice p.x.a0 p.t.calls.length p.x.c0, .slice p.x.a1 p.t.ans.length p.x.c1, .slice p.x.a2 p.t.rd.length p.x.c2, .slice p.x.a3 p.t.wr.length p.x.c3, .slice p.x.a4 p.t.marks.length p.x.c4, .int .i64 p.t.state], bk b_17 42 [.slice y_20.a0 y_20.store.length y_20.c0, .slice y_20.a1 y_20.txs.length y_20.c1, .slice y_20.dk.a y_20.dk.l.length y_20.dk.c, str y_20.dk.jt, .int .i64 y_20.dk.js, .int .i64 y_20.seq, .int .i64 y_20.next, .int .i64 y_20.time, .slice y_20.a2 y_20.hist.length y_20.c2, .slice y_20.a3 y_20.seen.length y_20.c3, .bool y_20.room]] 5 mixed (by simp) ?_
    refine JA.takeP 0 rfl (by kernel_rfl) (NP.th NP.body) (by kernel_rfl) (by kernel_rfl) rfl (PO.fieldAddr fo42_1 rfl) ?_
    refine JA.take 1 rfl (by kernel_rfl) (NP.th NP.body) (by kernel_rfl) (by kernel_rfl) (by kernel_rfl) rfl (LO.load1 8 (v := .slice y_20.a1 y_20.txs.length y_20.c1) rfl rfl Tryz.isAgg35 rfl) ?_
    refine JA.takeP 2 rfl (by kernel_rfl) (NP.th NP.body) (by kernel_rfl) (by kernel_rfl) rfl (PO.move (v := .int .i64 ((at_25 : Nat) : Int)) (congrArg (Value.int .i64) hat_26)) ?_
    refine JA.take 3 rfl (by kernel_rfl) (NP.th NP.body) (by kernel_rfl) (by kernel_rfl) (by kernel_rfl) rfl (LO.loadK 7 (vs := [.int .i64 p.t.id, .int .i64 p.t.age, .int .i64 p.t.proc, .int .i64 p.t.began, .slice p.x.a0 p.t.calls.length p.x.c0, .slice p.x.a1 p.t.ans.length p.x.c1, .slice p.x.a2 p.t.rd.length p.x.c2, .slice p.x.a3 p.t.wr.length p.x.c3, .slice p.x.a4 p.t.marks.length p.x.c4, .int .i64 p.t.state]) rfl rfl Tryz.isAgg61 Tryz.sizeOf61 rfl rfl) ?_
    refine JA.one (i := 4) (by kernel_rfl) ?_
    refine JX.op rfl rfl (JO.call [] Tryz.call59 rfl (Z_specl17Copy p hp) rfl (fun w hw => hw.seeOutA hpre.2 nMA)) ?_
    rintro _ _ ⟨_, ⟨y_31, hy_32, rfl, rfl⟩, rfl⟩
    refine ⟨by simp, ?_⟩
    refine JA.facts fun hst => ?_
    obtain ⟨hr_33, hr_33b, -⟩ := row_some 1 rfl (by omega) hst
    refine JA.takeP 5 rfl (by kernel_rfl) (NP.th NP.body) (by kernel_rfl) (by kernel_rfl) rfl (PO.indexAddrV (i := at_25) Tryz.underlying35 Tryz.sizeOf61 hr_33 hr_33b rfl rfl (by omega)) ?_
    refine JA.one (i := 6) (by kernel_rfl) ?_
    refine JX.last rfl rfl (by decide) (by kernel_rfl) (JO.storeR 1 (vs := [.int .i64 y_31.t.id, .int .i64 y_31.t.age, .int .i64 y_31.t.proc, .int .i64 y_31.t.began, .slice y_31.x.a0 y_31.t.calls.length y_31.x.c0, .slice y_31.x.a1 y_31.t.ans.length y_31.x.c1, .slice y_31.x.a2 y_31.t.rd.length y_31.x.c2, .slice y_31.x.a3 y_31.t.wr.length y_31.x.c3, .slice y_31.x.a4 y_31.t.marks.length y_31.x.c4, .int .i64 y_31.t.state]) (cs' := (y_20.txs.set at_25 y_31).flatMap encX) rfl rfl rfl rfl Tryz.sizeOf61 rfl rfl (by decide) (by rw [flat_length encX_len]; omega) (flat_set encX_len y_20.txs at_25 y_31 (by omega))) ?_
    rintro _ _ rfl
    refine JQ.seq ?_
    refine JC.seq ?_
    refine JC.region ?_
    refine JL.ld rfl (LO.loadK 9 (vs := [.slice y_20.a0 y_20.store.length y_20.c0, .slice y_20.a1 y_20.txs.length y_20.c1, .slice y_20.dk.a y_20.dk.l.length y_20.dk.c, str y_20.dk.jt, .int .i64 y_20.dk.js, .int .i64 y_20.seq, .int .i64 y_20.next, .int .i64 y_20.time, .slice y_20.a2 y_20.hist.length y_20.c2, .slice y_20.a3 y_20.seen.length y_20.c3, .bool y_20.room]) rfl rfl Tryz.isAgg42 Tryz.sizeOf42 rfl rfl) ?_
    refine JL.op rfl (JO.store 7 (vs := [.slice y_20.a0 y_20.store.length y_20.c0, .slice y_20.a1 y_20.txs.length y_20.c1, .slice y_20.dk.a y_20.dk.l.length y_20.dk.c, str y_20.dk.jt, .int .i64 y_20.dk.js, .int .i64 y_20.seq, .int .i64 y_20.next, .int .i64 y_20.time, .slice y_20.a2 y_20.hist.length y_20.c2, .slice y_20.a3 y_20.seen.length y_20.c3, .bool y_20.room]) (cs' := [.slice y_20.a0 y_20.store.length y_20.c0, .slice y_20.a1 y_20.txs.length y_20.c1, .slice y_20.dk.a y_20.dk.l.length y_20.dk.c, str y_20.dk.jt, .int .i64 y_20.dk.js, .int .i64 y_20.seq, .int .i64 y_20.next, .int .i64 y_20.time, .slice y_20.a2 y_20.hist.length y_20.c2, .slice y_20.a3 y_20.seen.length y_20.c3, .bool y_20.room]) rfl rfl rfl rfl Tryz.sizeOf42 rfl rfl (Nat.le_of_ble_eq_true rfl) rfl) ?_
    rintro _ _ rfl
    refine JL.nil ?_
    refine JQ.seq ?_
    refine JC.ret ?_
    refine JQ.ghost (L' := [Res.rows ((y_20.txs.set at_25 y_31).flatMap rdsX), Res.rows (rdsX (y_20.txs.getD at_25 x0)), Res.row (.slice y_20.a1 y_20.txs.length y_20.c1) 61 10 y_20.txs.length ((y_20.txs.set at_25 y_31).flatMap encX), rC y_20.a0 y_20.c0 y_20.store, rS y_20.a3 y_20.c3 y_20.seen, Res.rows (rdsD y_20.dk), Res.rows (rdsES y_20.a2 y_20.c2 y_20.hist), bk b_19 42 [.slice y_20.a0 y_20.store.length y_20.c0, .slice y_20.a1 y_20.txs.length y_20.c1, .slice y_20.dk.a y_20.dk.l.length y_20.dk.c, str y_20.dk.jt, .int .i64 y_20.dk.js, .int .i64 y_20.seq, .int .i64 y_20.next, .int .i64 y_20.time, .slice y_20.a2 y_20.hist.length y_20.c2, .slice y_20.a3 y_20.seen.length y_20.c3, .bool y_20.room], bk b_18 61 [.int .i64 p.t.id, .int .i64 p.t.age, .int .i64 p.t.proc, .int .i64 p.t.began, .slice p.x.a0 p.t.calls.length p.x.c0, .slice p.x.a1 p.t.ans.length p.x.c1, .slice p.x.a2 p.t.rd.length p.x.c2, .slice p.x.a3 p.t.wr.length p.x.c3, .slice p.x.a4 p.t.marks.length p.x.c4, .int .i64 p.t.state], bk b_17 42 [.slice y_20.a0 y_20.store.length y_20.c0, .slice y_20.a1 y_20.txs.length y_20.c1, .slice y_20.dk.a y_20.dk.l.length y_20.dk.c, str y_20.dk.jt, .int .i64 y_20.dk.js, .int .i64 y_20.seq, .int .i64 y_20.next, .int .i64 y_20.time, .slice y_20.a2 y_20.hist.length y_20.c2, .slice y_20.a3 y_20.seen.length y_20.c3, .bool y_20.room]]) (fun w hw => St.joinR [0, 2, 1] rfl (flatMap_setAt hlt_27) (St.splitR 2 rfl (flatMap_at x0 hlt_27) hw)) ?_
    refine JQ.ghost (L' := [Res.rows ((y_20.txs.set at_25 y_31).flatMap rdsX), Res.rows (rdsX (y_20.txs.getD at_25 x0)), Res.row (.slice y_20.a1 ((y_20.txs.set at_25 y_31).length) y_20.c1) 61 10 ((y_20.txs.set at_25 y_31).length) ((y_20.txs.set at_25 y_31).flatMap encX), rC y_20.a0 y_20.c0 y_20.store, rS y_20.a3 y_20.c3 y_20.seen, Res.rows (rdsD y_20.dk), Res.rows (rdsES y_20.a2 y_20.c2 y_20.hist), bk b_19 42 [.slice y_20.a0 y_20.store.length y_20.c0, .slice y_20.a1 y_20.txs.length y_20.c1, .slice y_20.dk.a y_20.dk.l.length y_20.dk.c, str y_20.dk.jt, .int .i64 y_20.dk.js, .int .i64 y_20.seq, .int .i64 y_20.next, .int .i64 y_20.time, .slice y_20.a2 y_20.hist.length y_20.c2, .slice y_20.a3 y_20.seen.length y_20.c3, .bool y_20.room], bk b_18 61 [.int .i64 p.t.id, .int .i64 p.t.age, .int .i64 p.t.proc, .int .i64 p.t.began, .slice p.x.a0 p.t.calls.length p.x.c0, .slice p.x.a1 p.t.ans.length p.x.c1, .slice p.x.a2 p.t.rd.length p.x.c2, .slice p.x.a3 p.t.wr.length p.x.c3, .slice p.x.a4 p.t.marks.length p.x.c4, .int .i64 p.t.state], bk b_17 42 [.slice y_20.a0 y_20.store.length y_20.c0, .slice y_20.a1 y_20.txs.length y_20.c1, .slice y_20.dk.a y_20.dk.l.length y_20.dk.c, str y_20.dk.jt, .int .i64 y_20.dk.js, .int .i64 y_20.seq, .int .i64 y_20.next, .int .i64 y_20.time, .slice y_20.a2 y_20.hist.length y_20.c2, .slice y_20.a3 y_20.seen.length y_20.c3, .bool y_20.room]]) (fun w hw => hw.eqL (by simp only [List.length_set] <;> rfl)) ?_
    refine JQ.ghost (L' := [Res.rows (rdsXS y_20.a1 y_20.c1 (y_20.txs.set at_25 y_31)), Res.rows (rdsX (y_20.txs.getD at_25 x0)), rC y_20.a0 y_20.c0 y_20.store, rS y_20.a3 y_20.c3 y_20.seen, Res.rows (rdsD y_20.dk), Res.rows (rdsES y_20.a2 y_20.c2 y_20.hist), bk b_19 42 [.slice y_20.a0 y_20.store.length y_20.c0, .slice y_20.a1 y_20.txs.length y_20.c1, .slice y_20.dk.a y_20.dk.l.length y_20.dk.c, str y_20.dk.jt, .int .i64 y_20.dk.js, .int .i64 y_20.seq, .int .i64 y_20.next, .int .i64 y_20.time, .slice y_20.a2 y_20.hist.length y_20.c2, .slice y_20.a3 y_20.seen.length y_20.c3, .bool y_20.room], bk b_18 61 [.int .i64 p.t.id, .int .i64 p.t.age, .int .i64 p.t.proc, .int .i64 p.t.began, .slice p.x.a0 p.t.calls.length p.x.c0, .slice p.x.a1 p.t.ans.length p.x.c1, .slice p.x.a2 p.t.rd.length p.x.c2, .slice p.x.a3 p.t.wr.length p.x.c3, .slice p.x.a4 p.t.marks.length p.x.c4, .int .i64 p.t.state], bk b_17 42 [.slice y_20.a0 y_20.store.length y_20.c0, .slice y_20.a1 y_20.txs.length y_20.c1, .slice y_20.dk.a y_20.dk.l.length y_20.dk.c, str y_20.dk.jt, .int .i64 y_20.dk.js, .int .i64 y_20.seq, .int .i64 y_20.next, .int .i64 y_20.time, .slice y_20.a2 y_20.hist.length y_20.c2, .slice y_20.a3 y_20.seen.length y_20.c3, .bool y_20.room]]) (fun w hw => hw.consR (r := ⟨.slice y_20.a1 ((y_20.txs.set at_25 y_31).length) y_20.c1, 61, 10, (y_20.txs.set at_25 y_31).length, (y_20.txs.set at_25 y_31).flatMap encX⟩) (A := (y_20.txs.set at_25 y_31).flatMap rdsX) [2, 0] rfl) ?_
    refine JQ.ghost (L' := [Res.rows (rdsN (⟨y_20.a0, y_20.c0, y_20.store, y_20.a1, y_20.c1, y_20.txs.set at_25 y_31, y_20.dk, y_20.seq, y_20.next, y_20.time, y_20.a2, y_20.c2, y_20.hist, y_20.a3, y_20.c3, y_20.seen, y_20.room⟩ : KX)), Res.rows (rdsX (y_20.txs.getD at_25 x0)), bk b_19 42 [.slice y_20.a0 y_20.store.length y_20.c0, .slice y_20.a1 y_20.txs.length y_20.c1, .slice y_20.dk.a y_20.dk.l.length y_20.dk.c, str y_20.dk.jt, .int .i64 y_20.dk.js, .int .i64 y_20.seq, .int .i64 y_20.next, .int .i64 y_20.time, .slice y_20.a2 y_20.hist.length y_20.c2, .slice y_20.a3 y_20.seen.length y_20.c3, .bool y_20.room], bk b_18 61 [.int .i64 p.t.id, .int .i64 p.t.age, .int .i64 p.t.proc, .int .i64 p.t.began, .slice p.x.a0 p.t.calls.length p.x.c0, .slice p.x.a1 p.t.ans.length p.x.c1, .slice p.x.a2 p.t.rd.length p.x.c2, .slice p.x.a3 p.t.wr.length p.x.c3, .slice p.x.a4 p.t.marks.length p.x.c4, .int .i64 p.t.state], bk b_17 42 [.slice y_20.a0 y_20.store.length y_20.c0, .slice y_20.a1 y_20.txs.length y_20.c1, .slice y_20.dk.a y_20.dk.l.length y_20.dk.c, str y_20.dk.jt, .int .i64 y_20.dk.js, .int .i64 y_20.seq, .int .i64 y_20.next, .int .i64 y_20.time, .slice y_20.a2 y_20.hist.length y_20.c2, .slice y_20.a3 y_20.seen.length y_20.c3, .bool y_20.room]]) (fun w hw => hw.gathN [2, 2, 0, 1, 1] rfl) ?_
    refine Done.one (.inl rfl) rfl (RV.cell1 (LO.loadK 2 (vs := [.slice y_20.a0 y_20.store.length y_20.c0, .slice y_20.a1 y_20.txs.length y_20.c1, .slice y_20.dk.a y_20.dk.l.length y_20.dk.c, str y_20.dk.jt, .int .i64 y_20.dk.js, .int .i64 y_20.seq, .int .i64 y_20.next, .int .i64 y_20.time, .slice y_20.a2 y_20.hist.length y_20.c2, .slice y_20.a3 y_20.seen.length y_20.c3, .bool y_20.room]) rfl rfl Tryz.isAgg42 Tryz.sizeOf42 rfl rfl) ⟨_, rfl⟩) (List.sublist_append_left [Res.rows (rdsN (⟨y_20.a0, y_20.c0, y_20.store, y_20.a1, y_20.c1, y_20.txs.set at_25 y_31, y_20.dk, y_20.seq, y_20.next, y_20.time, y_20.a2, y_20.c2, y_20.hist, y_20.a3, y_20.c3, y_20.seen, y_20.room⟩ : KX))] [Res.rows (rdsX (y_20.txs.getD at_25 x0)), bk b_19 42 [.slice y_20.a0 y_20.store.length y_20.c0, .slice y_20.a1 y_20.txs.length y_20.c1, .slice y_20.dk.a y_20.dk.l.length y_20.dk.c, str y_20.dk.jt, .int .i64 y_20.dk.js, .int .i64 y_20.seq, .int .i64 y_20.next, .int .i64 y_20.time, .slice y_20.a2 y_20.hist.length y_20.c2, .slice y_20.a3 y_20.seen.length y_20.c3, .bool y_20.room], bk b_18 61 [.int .i64 p.t.id, .int .i64 p.t.age, .int .i64 p.t.proc, .int .i64 p.t.began, .slice p.x.a0 p.t.calls.length p.x.c0, .slice p.x.a1 p.t.ans.length p.x.c1, .slice p.x.a2 p.t.rd.length p.x.c2, .slice p.x.a3 p.t.wr.length p.x.c3, .slice p.x.a4 p.t.marks.length p.x.c4, .int .i64 p.t.state], bk b_17 42 [.slice y_20.a0 y_20.store.length y_20.c0, .slice y_20.a1 y_20.txs.length y_20.c1, .slice y_20.dk.a y_20.dk.l.length y_20.dk.c, str y_20.dk.jt, .int .i64 y_20.dk.js, .int .i64 y_20.seq, .int .i64 y_20.next, .int .i64 y_20.time, .slice y_20.a2 y_20.hist.length y_20.c2, .slice y_20.a3 y_20.seen.length y_20.c3, .bool y_20.room]]) ?_
    have hdat : (⟨y_20.a0, y_20.c0, y_20.store, y_20.a1, y_20.c1, y_20.txs.set at_25 y_31, y_20.dk, y_20.seq, y_20.next, y_20.time, y_20.a2, y_20.c2, y_20.hist, y_20.a3, y_20.c3, y_20.seen, y_20.room⟩ : KX).dat = y_20.dat.setTx at_25 y_31.t := by simp only [KX.dat, KD.setTx, map_setT]
    exact ⟨(⟨y_20.a0, y_20.c0, y_20.store, y_20.a1, y_20.c1, y_20.txs.set at_25 y_31, y_20.dk, y_20.seq, y_20.next, y_20.time, y_20.a2, y_20.c2, y_20.hist, y_20.a3, y_20.c3, y_20.seen, y_20.room⟩ : KX), by rw [hdat, hy_32]; first | (rw [hy_21]; exact (KD.withT_pos (k := k.dat) hat_26).symm) | (rw [← hy_21]; exact (KD.withT_pos (k := y_20.dat) hat_26).symm), by rw [List.length_set], rfl⟩
  · skip
    refine JC.condF (congrArg Value.bool (decide_eq_false h_24)) ?_
    refine JC.skip ?_
    refine JQ.seq ?_
    refine JC.seq ?_
    refine JC.region ?_
    refine JL.ld rfl (LO.loadK 3 (vs := [.slice y_20.a0 y_20.store.length y_20.c0, .slice y_20.a1 y_20.txs.length y_20.c1, .slice y_20.dk.a y_20.dk.l.length y_20.dk.c, str y_20.dk.jt, .int .i64 y_20.dk.js, .int .i64 y_20.seq, .int .i64 y_20.next, .int .i64 y_20.time, .slice y_20.a2 y_20.hist.length y_20.c2, .slice y_20.a3 y_20.seen.length y_20.c3, .bool y_20.room]) rfl rfl Tryz.isAgg42 Tryz.sizeOf42 rfl rfl) ?_
    refine JL.op rfl (JO.store 1 (vs := [.slice y_20.a0 y_20.store.length y_20.c0, .slice y_20.a1 y_20.txs.length y_20.c1, .slice y_20.dk.a y_20.dk.l.length y_20.dk.c, str y_20.dk.jt, .int .i64 y_20.dk.js, .int .i64 y_20.seq, .int .i64 y_20.next, .int .i64 y_20.time, .slice y_20.a2 y_20.hist.length y_20.c2, .slice y_20.a3 y_20.seen.length y_20.c3, .bool y_20.room]) (cs' := [.slice y_20.a0 y_20.store.length y_20.c0, .slice y_20.a1 y_20.txs.length y_20.c1, .slice y_20.dk.a y_20.dk.l.length y_20.dk.c, str y_20.dk.jt, .int .i64 y_20.dk.js, .int .i64 y_20.seq, .int .i64 y_20.next, .int .i64 y_20.time, .slice y_20.a2 y_20.hist.length y_20.c2, .slice y_20.a3 y_20.seen.length y_20.c3, .bool y_20.room]) rfl rfl rfl rfl Tryz.sizeOf42 rfl rfl (Nat.le_of_ble_eq_true rfl) rfl) ?_
    rintro _ _ rfl
    refine JL.nil ?_
    refine JQ.seq ?_
    refine JC.ret ?_
    refine Done.one (.inl rfl) rfl (RV.cell1 (LO.loadK 1 (vs := [.slice y_20.a0 y_20.store.length y_20.c0, .slice y_20.a1 y_20.txs.length y_20.c1, .slice y_20.dk.a y_20.dk.l.length y_20.dk.c, str y_20.dk.jt, .int .i64 y_20.dk.js, .int .i64 y_20.seq, .int .i64 y_20.next, .int .i64 y_20.time, .slice y_20.a2 y_20.hist.length y_20.c2, .slice y_20.a3 y_20.seen.length y_20.c3, .bool y_20.room]) rfl rfl Tryz.isAgg42 Tryz.sizeOf42 rfl rfl) ⟨_, rfl⟩) (List.sublist_append_left [Res.rows (rdsN y_20)] [bk b_19 42 [.slice y_20.a0 y_20.store.length y_20.c0, .slice y_20.a1 y_20.txs.length y_20.c1, .slice y_20.dk.a y_20.dk.l.length y_20.dk.c, str y_20.dk.jt, .int .i64 y_20.dk.js, .int .i64 y_20.seq, .int .i64 y_20.next, .int .i64 y_20.time, .slice y_20.a2 y_20.hist.length y_20.c2, .slice y_20.a3 y_20.seen.length y_20.c3, .bool y_20.room], bk b_18 61 [.int .i64 p.t.id, .int .i64 p.t.age, .int .i64 p.t.proc, .int .i64 p.t.began, .slice p.x.a0 p.t.calls.length p.x.c0, .slice p.x.a1 p.t.ans.length p.x.c1, .slice p.x.a2 p.t.rd.length p.x.c2, .slice p.x.a3 p.t.wr.length p.x.c3, .slice p.x.a4 p.t.marks.length p.x.c4, .int .i64 p.t.state], bk b_17 42 [.slice y_20.a0 y_20.store.length y_20.c0, .slice y_20.a1 y_20.txs.length y_20.c1, .slice y_20.dk.a y_20.dk.l.length y_20.dk.c, str y_20.dk.jt, .int .i64 y_20.dk.js, .int .i64 y_20.seq, .int .i64 y_20.next, .int .i64 y_20.time, .slice y_20.a2 y_20.hist.length y_20.c2, .slice y_20.a3 y_20.seen.length y_20.c3, .bool y_20.room]]) ?_
    exact ⟨y_20, by first | (rw [hy_21]; exact (KD.withT_neg (k := k.dat) h_24).symm) | (rw [← hy_21]; exact (KD.withT_neg (k := y_20.dat) h_24).symm), rfl, rfl⟩

theorem C_markTx (p : TX) (k : Nat) (h0 : 0 < k) (h1 : k + 7 * (p.t.calls.length + p.t.ans.length + p.t.rd.length + p.t.wr.length + p.t.marks.length) ≤ 100000000) :
    Ct Tryz.prog 20 [.agg #[.int .i64 p.t.id, .int .i64 p.t.age, .int .i64 p.t.proc, .int .i64 p.t.began, .slice p.x.a0 p.t.calls.length p.x.c0, .slice p.x.a1 p.t.ans.length p.x.c1, .slice p.x.a2 p.t.rd.length p.x.c2, .slice p.x.a3 p.t.wr.length p.x.c3, .slice p.x.a4 p.t.marks.length p.x.c4, .int .i64 p.t.state], .int .i64 ((k : Nat) : Int)] [Res.rows (rdsX p)] (fun _ => True) (fun v A' => ∃ rs : List RD, v = .int .i64 ((k + 6 * p.t.calls.length + 3 * p.t.ans.length + p.t.rd.length + p.t.wr.length + 1 * p.t.marks.length : Nat) : Int) ∧ A' = [.rows rs]) := by
  refine Ct.intro Tryz.func20 rfl Tryz.ntmps20 (Nat.le_of_ble_eq_true rfl) fun w0 hpre => ?_
  refine JC.ghost (L' := [Res.row (.slice p.x.a0 p.t.calls.length p.x.c0) 152 6 p.t.calls.length (p.t.calls.flatMap encK), Res.row (.slice p.x.a1 p.t.ans.length p.x.c1) 154 3 p.t.ans.length (p.t.ans.flatMap encA), rS p.x.a2 p.x.c2 p.t.rd, rS p.x.a3 p.x.c3 p.t.wr, rI p.x.a4 p.x.c4 p.t.marks]) (fun w hw => hw.openR 0 rfl) ?_
  refine JC.seq ?_
  refine JC.region ?_
  refine JL.op rfl (JO.box (cs := [.int .i64 p.t.id, .int .i64 p.t.age, .int .i64 p.t.proc, .int .i64 p.t.began, .slice p.x.a0 p.t.calls.length p.x.c0, .slice p.x.a1 p.t.ans.length p.x.c1, .slice p.x.a2 p.t.rd.length p.x.c2, .slice p.x.a3 p.t.wr.length p.x.c3, .slice p.x.a4 p.t.marks.length p.x.c4, .int .i64 p.t.state]) rfl rfl) ?_
  rintro _ _ ⟨b_1, rfl, rfl⟩
  refine JL.pure rfl (PO.assign (v := .int .i64 0) rfl) ?_
  refine JL.nil ?_
  refine JQ.seq ?_
  refine JC.seq ?_
  refine JC.region ?_
  refine JL.pure rfl (PO.fieldAddr fo61_4 rfl) ?_
  refine JL.ld rfl (LO.load1 0 (v := .slice p.x.a0 p.t.calls.length p.x.c0) rfl rfl Tryz.isAgg57 rfl) ?_
  refine JL.pure rfl (PO.move (v := .int .i64 ((k : Nat) : Int)) rfl) ?_
  refine JL.op rfl (JO.call [1] Tryz.call70 rfl (C_markCallS p.x.a0 p.x.c0 p.t.calls k (by omega) (by omega)) rfl (fun _ _ => trivial)) ?_
  rintro _ _ ⟨_, ⟨rfl, rfl⟩, rfl⟩
  refine JL.pure rfl (PO.assign (v := .int .i64 ((k + 6 * p.t.calls.length : Nat) : Int)) rfl) ?_
  refine JL.nil ?_
  refine JQ.seq ?_
  refine JC.seq ?_
  refine JC.region ?_
  refine JL.pure rfl (PO.fieldAddr fo61_5 rfl) ?_
  refine JL.ld rfl (LO.load1 1 (v := .slice p.x.a1 p.t.ans.length p.x.c1) rfl rfl Tryz.isAgg58 rfl) ?_
  refine JL.pure rfl (PO.move (v := .int .i64 ((k + 6 * p.t.calls.length : Nat) : Int)) rfl) ?_
  refine JL.op rfl (JO.call [2] Tryz.call71 rfl (C_markAnswerS p.x.a1 p.x.c1 p.t.ans (k + 6 * p.t.calls.length) (by omega) (by omega)) rfl (fun _ _ => trivial)) ?_
  rintro _ _ ⟨_, ⟨rfl, rfl⟩, rfl⟩
  refine JL.pure rfl (PO.assign (v := .int .i64 ((k + 6 * p.t.calls.length + 3 * p.t.ans.length : Nat) : Int)) rfl) ?_
  refine JL.nil ?_
  refine JQ.seq ?_
  refine JC.seq ?_
  refine JC.region ?_
  refine JL.pure rfl (PO.fieldAddr fo61_6 rfl) ?_
  refine JL.ld rfl (LO.loadK 2 (vs := [.slice p.x.a2 p.t.rd.length p.x.c2, .slice p.x.a3 p.t.wr.length p.x.c3]) rfl rfl Tryz.isAgg59 Tryz.sizeOf59 rfl rfl) ?_
  refine JL.pure rfl (PO.move (v := .int .i64 ((k + 6 * p.t.calls.length + 3 * p.t.ans.length : Nat) : Int)) rfl) ?_
  refine JL.op rfl (JO.call [3, 3] Tryz.call72 rfl (C_markTouch p.x.a2 p.x.a3 p.x.c2 p.x.c3 p.t.rd p.t.wr (k + 6 * p.t.calls.length + 3 * p.t.ans.length) (by omega) (by omega)) rfl (fun _ _ => trivial)) ?_
  rintro _ _ ⟨_, ⟨rfl, rfl⟩, rfl⟩
  refine JL.pure rfl (PO.assign (v := .int .i64 ((k + 6 * p.t.calls.length + 3 * p.t.ans.length + p.t.rd.length + p.t.wr.length : Nat) : Int)) rfl) ?_
  refine JL.nil ?_
  refine JQ.seq ?_
  refine JC.seq ?_
  refine JC.region ?_
  refine JL.pure rfl (PO.fieldAddr fo61_7 rfl) ?_
  refine JL.ld rfl (LO.load1 4 (v := .slice p.x.a4 p.t.marks.length p.x.c4) rfl rfl Tryz.isAgg52 rfl) ?_
  refine JL.pure rfl (PO.move (v := .int .i64 ((k + 6 * p.t.calls.length + 3 * p.t.ans.length + p.t.rd.length + p.t.wr.length : Nat) : Int)) rfl) ?_
  refine JL.op rfl (JO.call [5] Tryz.call73 rfl (Y_markIntS p.x.a4 p.x.c4 p.t.marks (k + 6 * p.t.calls.length + 3 * p.t.ans.length + p.t.rd.length + p.t.wr.length) (by omega) (by omega)) rfl (fun _ _ => trivial)) ?_
  rintro _ _ ⟨_, ⟨rfl, rfl⟩, rfl⟩
  refine JL.pure rfl (PO.assign (v := .int .i64 ((k + 6 * p.t.calls.length + 3 * p.t.ans.length + p.t.rd.length + p.t.wr.length + 1 * p.t.marks.length : Nat) : Int)) rfl) ?_
  refine JL.nil ?_
  refine JQ.seq ?_
  refine JC.seq ?_
  refine JC.region ?_
  refine JL.pure rfl (PO.move (v := .int .i64 ((k + 6 * p.t.calls.length + 3 * p.t.ans.length + p.t.rd.length + p.t.wr.length + 1 * p.t.marks.length : Nat) : Int)) rfl) ?_
  refine JL.pure rfl (PO.assign (v := .int .i64 ((k + 6 * p.t.calls.length + 3 * p.t.ans.length + p.t.rd.length + p.t.wr.length + 1 * p.t.marks.length : Nat) : Int)) rfl) ?_
  refine JL.nil ?_
  refine JQ.seq ?_
  refine JC.ret ?_
  refine JQ.ghost (L' := [Res.rows (([⟨.slice p.x.a0 p.t.calls.length p.x.c0, 152, 6, p.t.calls.length, (markG mkK 6 p.t.calls (k)).flatMap encK⟩, ⟨.slice p.x.a1 p.t.ans.length p.x.c1, 154, 3, p.t.ans.length, (markG mkA 3 p.t.ans (k + 6 * p.t.calls.length)).flatMap encA⟩, ⟨.slice p.x.a2 p.t.rd.length p.x.c2, 9, 1, p.t.rd.length, (markS p.t.rd (k + 6 * p.t.calls.length + 3 * p.t.ans.length)).map str⟩, ⟨.slice p.x.a3 p.t.wr.length p.x.c3, 9, 1, p.t.wr.length, (markS p.t.wr (k + 6 * p.t.calls.length + 3 * p.t.ans.length + p.t.rd.length)).map str⟩, ⟨.slice p.x.a4 p.t.marks.length p.x.c4, 3, 1, p.t.marks.length, (markG mkI 1 p.t.marks (k + 6 * p.t.calls.length + 3 * p.t.ans.length + p.t.rd.length + p.t.wr.length)).map (Value.int .i64)⟩] : List RD)), bk b_1 61 [.int .i64 p.t.id, .int .i64 p.t.age, .int .i64 p.t.proc, .int .i64 p.t.began, .slice p.x.a0 p.t.calls.length p.x.c0, .slice p.x.a1 p.t.ans.length p.x.c1, .slice p.x.a2 p.t.rd.length p.x.c2, .slice p.x.a3 p.t.wr.length p.x.c3, .slice p.x.a4 p.t.marks.length p.x.c4, .int .i64 p.t.state]]) (fun w hw => hw.closeR (A := ([⟨.slice p.x.a0 p.t.calls.length p.x.c0, 152, 6, p.t.calls.length, (markG mkK 6 p.t.calls (k)).flatMap encK⟩, ⟨.slice p.x.a1 p.t.ans.length p.x.c1, 154, 3, p.t.ans.length, (markG mkA 3 p.t.ans (k + 6 * p.t.calls.length)).flatMap encA⟩, ⟨.slice p.x.a2 p.t.rd.length p.x.c2, 9, 1, p.t.rd.length, (markS p.t.rd (k + 6 * p.t.calls.length + 3 * p.t.ans.length)).map str⟩, ⟨.slice p.x.a3 p.t.wr.length p.x.c3, 9, 1, p.t.wr.length, (markS p.t.wr (k + 6 * p.t.calls.length + 3 * p.t.ans.length + p.t.rd.length)).map str⟩, ⟨.slice p.x.a4 p.t.marks.length p.x.c4, 3, 1, p.t.marks.length, (markG mkI 1 p.t.marks (k + 6 * p.t.calls.length + 3 * p.t.ans.length + p.t.rd.length + p.t.wr.length)).map (Value.int .i64)⟩] : List RD)) [4, 3, 1, 1, 0] rfl) ?_
  refine Done.one (.inl rfl) rfl (RV.tmp (v := .int .i64 ((k + 6 * p.t.calls.length + 3 * p.t.ans.length + p.t.rd.length + p.t.wr.length + 1 * p.t.marks.length : Nat) : Int)) rfl) (List.sublist_append_left [Res.rows (([⟨.slice p.x.a0 p.t.calls.length p.x.c0, 152, 6, p.t.calls.length, (markG mkK 6 p.t.calls (k)).flatMap encK⟩, ⟨.slice p.x.a1 p.t.ans.length p.x.c1, 154, 3, p.t.ans.length, (markG mkA 3 p.t.ans (k + 6 * p.t.calls.length)).flatMap encA⟩, ⟨.slice p.x.a2 p.t.rd.length p.x.c2, 9, 1, p.t.rd.length, (markS p.t.rd (k + 6 * p.t.calls.length + 3 * p.t.ans.length)).map str⟩, ⟨.slice p.x.a3 p.t.wr.length p.x.c3, 9, 1, p.t.wr.length, (markS p.t.wr (k + 6 * p.t.calls.length + 3 * p.t.ans.length + p.t.rd.length)).map str⟩, ⟨.slice p.x.a4 p.t.marks.length p.x.c4, 3, 1, p.t.marks.length, (markG mkI 1 p.t.marks (k + 6 * p.t.calls.length + 3 * p.t.ans.length + p.t.rd.length + p.t.wr.length)).map (Value.int .i64)⟩] : List RD))] [bk b_1 61 [.int .i64 p.t.id, .int .i64 p.t.age, .int .i64 p.t.proc, .int .i64 p.t.began, .slice p.x.a0 p.t.calls.length p.x.c0, .slice p.x.a1 p.t.ans.length p.x.c1, .slice p.x.a2 p.t.rd.length p.x.c2, .slice p.x.a3 p.t.wr.length p.x.c3, .slice p.x.a4 p.t.marks.length p.x.c4, .int .i64 p.t.state]]) ?_
  exact ⟨_, rfl, rfl⟩

end Go.Proofs.YtkmpmjficoohkaaGreat
