/-
Texts of the walk, joined: what each one proves stands at its theorems.
-/
import Derived.Test.YthlfmbbaomdciaaGreatDoorB0S65TX
import Derived.Test.YthlfmbbaomdciaaGreatDoorXTxAskDatTk
set_option linter.unusedSimpArgs false
set_option linter.unusedVariables false
set_option linter.unnecessarySimpa false
set_option maxHeartbeats 4000000
set_option maxRecDepth 4000
namespace Go.Proofs.YthlfmbbaomdciaaGreatDoor
open Go Go.RowKit
/-- A transaction whose rows are marked from k on. -/
def mkY (p : TX) (k : Nat) : TX := ⟨p.x, ⟨p.t.id, p.t.age, p.t.proc, p.t.began, markG mkK 6 p.t.calls (k), markG mkA 3 p.t.ans (k + 6 * p.t.calls.length), markS p.t.rd (k + 6 * p.t.calls.length + 3 * p.t.ans.length), markS p.t.wr (k + 6 * p.t.calls.length + 3 * p.t.ans.length + p.t.rd.length), markG mkI 1 p.t.marks (k + 6 * p.t.calls.length + 3 * p.t.ans.length + p.t.rd.length + p.t.wr.length), p.t.state⟩⟩
theorem rdsY (p : TX) (k : Nat) : rdsX (mkY p k) = [⟨.slice p.x.a0 p.t.calls.length p.x.c0, 43, 6, p.t.calls.length, (markG mkK 6 p.t.calls (k)).flatMap encK⟩, ⟨.slice p.x.a1 p.t.ans.length p.x.c1, 39, 3, p.t.ans.length, (markG mkA 3 p.t.ans (k + 6 * p.t.calls.length)).flatMap encA⟩, ⟨.slice p.x.a2 p.t.rd.length p.x.c2, 9, 1, p.t.rd.length, (markS p.t.rd (k + 6 * p.t.calls.length + 3 * p.t.ans.length)).map str⟩, ⟨.slice p.x.a3 p.t.wr.length p.x.c3, 9, 1, p.t.wr.length, (markS p.t.wr (k + 6 * p.t.calls.length + 3 * p.t.ans.length + p.t.rd.length)).map str⟩, ⟨.slice p.x.a4 p.t.marks.length p.x.c4, 3, 1, p.t.marks.length, (markG mkI 1 p.t.marks (k + 6 * p.t.calls.length + 3 * p.t.ans.length + p.t.rd.length + p.t.wr.length)).map (Value.int .i64)⟩] := by
 simp only [rdsX, mkY, markG_len, markS_len, markC_len]
theorem seesY {w : World} {p : TX} {k : Nat} (h : SeesA w (rdsX (mkY p k))) : Sees w (.slice p.x.a0 p.t.calls.length p.x.c0) 6 p.t.calls.length ((markG mkK 6 p.t.calls (k)).flatMap encK) ∧ Sees w (.slice p.x.a1 p.t.ans.length p.x.c1) 3 p.t.ans.length ((markG mkA 3 p.t.ans (k + 6 * p.t.calls.length)).flatMap encA) ∧ Sees w (.slice p.x.a2 p.t.rd.length p.x.c2) 1 p.t.rd.length ((markS p.t.rd (k + 6 * p.t.calls.length + 3 * p.t.ans.length)).map str) ∧ Sees w (.slice p.x.a3 p.t.wr.length p.x.c3) 1 p.t.wr.length ((markS p.t.wr (k + 6 * p.t.calls.length + 3 * p.t.ans.length + p.t.rd.length)).map str) ∧ Sees w (.slice p.x.a4 p.t.marks.length p.x.c4) 1 p.t.marks.length ((markG mkI 1 p.t.marks (k + 6 * p.t.calls.length + 3 * p.t.ans.length + p.t.rd.length + p.t.wr.length)).map (Value.int .i64)) := by
 rw [rdsY] at h
 exact ⟨h.head, h.tail.head, h.tail.tail.head, h.tail.tail.tail.head, h.tail.tail.tail.tail.head⟩
attribute [local irreducible] JL JC JQ JO LO PO JA JX Ct

theorem Y_markTouch (a1 a2 : Option Addr) (c1 c2 : Nat) (r w : List Str) (k : Nat) (h0 : 0 < k) (h1 : k + r.length + w.length ≤ 10000000000) :
   Ct Tryz.prog 183 [.agg #[.slice a1 r.length c1, .slice a2 w.length c2], .int .i64 ((k : Nat) : Int)] [rS a1 c1 r, rS a2 c2 w] (fun _ => True) (fun v A' => v = .int .i64 ((k + r.length + w.length : Nat) : Int) ∧ A' = [.row (.slice a1 r.length c1) 9 1 r.length ((markS r k).map str), .row (.slice a2 w.length c2) 9 1 w.length ((markS w (k + r.length)).map str)]) := by
 refine Ct.intro Tryz.func183 rfl Tryz.ntmps183 (lb rfl) fun w0 hpre => ?_
 refine go ?_
 refine jM [.slice a1 r.length c1, .slice a2 w.length c2] fun b_1 => ?_
 refine go ?_
 refine jN [1] (C_markStringS a1 c1 r k (by omega) (by omega)) ?_
 refine go ?_
 refine jN [2] (C_markStringS a2 c2 w (k + r.length) (by omega) (by omega)) ?_
 refine go ?_
 exact jJ [1, 0] ⟨rfl, rfl⟩

theorem Y_heldTouch (a1 a2 : Option Addr) (c1 c2 : Nat) (r w : List Str) (k : Nat) (h0 : 0 < k) (h1 : k + r.length + w.length ≤ 10000000000) :
   Ct Tryz.prog 187 [.agg #[.slice a1 r.length c1, .slice a2 w.length c2], .int .i64 ((k : Nat) : Int)] [] (fun w_ => Sees w_ (.slice a1 r.length c1) 1 r.length ((markS r k).map str) ∧ Sees w_ (.slice a2 w.length c2) 1 w.length ((markS w (k + r.length)).map str)) (fun v A' => v = .int .i64 ((k + r.length + w.length : Nat) : Int) ∧ A' = []) := by
 refine Ct.intro Tryz.func187 rfl Tryz.ntmps187 (lb rfl) fun w0 hpre => ?_
 refine go ?_
 refine jM [.slice a1 r.length c1, .slice a2 w.length c2] fun b_1 => ?_
 refine go ?_
 refine jN [] (Y_heldStringS a1 c1 r k (by omega) (by omega)) (hpre := fun w hw => hw.seeOut_ hpre.1 nM) ?_
 refine go ?_
 by_cases h_2 : ((k + r.length : Nat) : Int) < 0
 · refine go ?_
   refine jE (.inl rfl) rfl (jC (v := iv (-1)) rfl) (List.nil_sublist _) ?_
   exfalso
   omega
 refine go ?_
 refine jN [] (Y_heldStringS a2 c2 w (k + r.length) (by omega) (by omega)) (hpre := fun w hw => hw.seeOut_ hpre.2 nM) ?_
 refine go ?_
 by_cases h_3 : ((k + r.length + w.length : Nat) : Int) < 0
 · refine go ?_
   refine jE (.inl rfl) rfl (jC (v := iv (-1)) rfl) (List.nil_sublist _) ?_
   exfalso
   omega
 refine go ?_
 exact jJ [] ⟨rfl, rfl⟩

set_option maxRecDepth 4000 in
theorem Y_markTx (p : TX) (k : Nat) (h0 : 0 < k) (h1 : k + 7 * (p.t.calls.length + p.t.ans.length + p.t.rd.length + p.t.wr.length + p.t.marks.length) ≤ 10000000000) :
   Ct Tryz.prog 93 [.agg #[.int .i64 p.t.id, .int .i64 p.t.age, .int .i64 p.t.proc, .int .i64 p.t.began, .slice p.x.a0 p.t.calls.length p.x.c0, .slice p.x.a1 p.t.ans.length p.x.c1, .slice p.x.a2 p.t.rd.length p.x.c2, .slice p.x.a3 p.t.wr.length p.x.c3, .slice p.x.a4 p.t.marks.length p.x.c4, .int .i64 p.t.state], .int .i64 ((k : Nat) : Int)] [Res.rows (rdsX p)] (fun _ => True) (fun v A' => v = .int .i64 ((k + 6 * p.t.calls.length + 3 * p.t.ans.length + p.t.rd.length + p.t.wr.length + 1 * p.t.marks.length : Nat) : Int) ∧ A' = [.rows (rdsX (mkY p k))]) := by
 refine Ct.intro Tryz.func93 rfl Tryz.ntmps93 (lb rfl) fun w0 hpre => ?_
 refine JC.ghost (L' := [Res.row (.slice p.x.a0 p.t.calls.length p.x.c0) 43 6 p.t.calls.length (p.t.calls.flatMap encK), Res.row (.slice p.x.a1 p.t.ans.length p.x.c1) 39 3 p.t.ans.length (p.t.ans.flatMap encA), rS p.x.a2 p.x.c2 p.t.rd, rS p.x.a3 p.x.c3 p.t.wr, rI p.x.a4 p.x.c4 p.t.marks]) (fun w hw => hw.openR 0 rfl) ?_
 refine go ?_
 refine jM (xc p) fun b_1 => ?_
 refine go ?_
 refine jN [1] (C_markCallS p.x.a0 p.x.c0 p.t.calls k (by omega) (by omega)) ?_
 refine go ?_
 refine jN [2] (C_markAnswerS p.x.a1 p.x.c1 p.t.ans (k + 6 * p.t.calls.length) (by omega) (by omega)) ?_
 refine go ?_
 refine jN [3, 3] (Y_markTouch p.x.a2 p.x.a3 p.x.c2 p.x.c3 p.t.rd p.t.wr (k + 6 * p.t.calls.length + 3 * p.t.ans.length) (by omega) (by omega)) ?_
 refine go ?_
 refine jN [5] (Y_markIntS p.x.a4 p.x.c4 p.t.marks (k + 6 * p.t.calls.length + 3 * p.t.ans.length + p.t.rd.length + p.t.wr.length) (by omega) (by omega)) ?_
 refine gQ ?_
 refine jb <| jT <| jc <| jy ?_
 refine gQ ?_
 refine jb <| jT <| jz ?_
 refine jw (L' := [Res.rows (rdsX (mkY p k)), bk b_1 35 (xc p)]) (fun w hw => St.eqL (by rw [rdsY]; rfl) (hw.closeR (A := ([⟨.slice p.x.a0 p.t.calls.length p.x.c0, 43, 6, p.t.calls.length, (markG mkK 6 p.t.calls (k)).flatMap encK⟩, ⟨.slice p.x.a1 p.t.ans.length p.x.c1, 39, 3, p.t.ans.length, (markG mkA 3 p.t.ans (k + 6 * p.t.calls.length)).flatMap encA⟩, ⟨.slice p.x.a2 p.t.rd.length p.x.c2, 9, 1, p.t.rd.length, (markS p.t.rd (k + 6 * p.t.calls.length + 3 * p.t.ans.length)).map str⟩, ⟨.slice p.x.a3 p.t.wr.length p.x.c3, 9, 1, p.t.wr.length, (markS p.t.wr (k + 6 * p.t.calls.length + 3 * p.t.ans.length + p.t.rd.length)).map str⟩, ⟨.slice p.x.a4 p.t.marks.length p.x.c4, 3, 1, p.t.marks.length, (markG mkI 1 p.t.marks (k + 6 * p.t.calls.length + 3 * p.t.ans.length + p.t.rd.length + p.t.wr.length)).map (Value.int .i64)⟩] : List RD)) [4, 3, 1, 1, 0] rfl)) ?_
 exact jJ [0] ⟨rfl, rfl⟩

set_option maxRecDepth 4000 in
theorem Y_heldTx (p : TX) (k : Nat) (h0 : 0 < k) (h1 : k + 7 * (p.t.calls.length + p.t.ans.length + p.t.rd.length + p.t.wr.length + p.t.marks.length) ≤ 10000000000) :
   Ct Tryz.prog 94 [.agg #[.int .i64 p.t.id, .int .i64 p.t.age, .int .i64 p.t.proc, .int .i64 p.t.began, .slice p.x.a0 p.t.calls.length p.x.c0, .slice p.x.a1 p.t.ans.length p.x.c1, .slice p.x.a2 p.t.rd.length p.x.c2, .slice p.x.a3 p.t.wr.length p.x.c3, .slice p.x.a4 p.t.marks.length p.x.c4, .int .i64 p.t.state], .int .i64 ((k : Nat) : Int)] [] (fun w => SeesA w (rdsX (mkY p k))) (fun v A' => v = .int .i64 ((k + 6 * p.t.calls.length + 3 * p.t.ans.length + p.t.rd.length + p.t.wr.length + 1 * p.t.marks.length : Nat) : Int) ∧ A' = []) := by
 refine Ct.intro Tryz.func94 rfl Tryz.ntmps94 (lb rfl) fun w0 hpre => ?_
 obtain ⟨hs_1, hs_2, hs_3, hs_4, hs_5⟩ := seesY hpre
 refine go ?_
 refine jM (xc p) fun b_6 => ?_
 refine go ?_
 refine jN [] (C_heldCallS p.x.a0 p.x.c0 p.t.calls k (by omega) (by omega)) (hpre := fun w hw => hw.seeOut_ hs_1 nM) ?_
 refine go ?_
 by_cases h_7 : ((k + 6 * p.t.calls.length : Nat) : Int) < 0
 · refine go ?_
   refine jE (.inl rfl) rfl (jC (v := iv (-1)) rfl) (List.nil_sublist _) ?_
   exfalso
   omega
 refine go ?_
 refine jN [] (C_heldAnswerS p.x.a1 p.x.c1 p.t.ans (k + 6 * p.t.calls.length) (by omega) (by omega)) (hpre := fun w hw => hw.seeOut_ hs_2 nM) ?_
 refine go ?_
 by_cases h_8 : ((k + 6 * p.t.calls.length + 3 * p.t.ans.length : Nat) : Int) < 0
 · refine go ?_
   refine jE (.inl rfl) rfl (jC (v := iv (-1)) rfl) (List.nil_sublist _) ?_
   exfalso
   omega
 refine go ?_
 refine jN [] (Y_heldTouch p.x.a2 p.x.a3 p.x.c2 p.x.c3 p.t.rd p.t.wr (k + 6 * p.t.calls.length + 3 * p.t.ans.length) (by omega) (by omega)) (hpre := fun w hw => ⟨hw.seeOut_ hs_3 nM, hw.seeOut_ hs_4 nM⟩) ?_
 refine go ?_
 by_cases h_9 : ((k + 6 * p.t.calls.length + 3 * p.t.ans.length + p.t.rd.length + p.t.wr.length : Nat) : Int) < 0
 · refine go ?_
   refine jE (.inl rfl) rfl (jC (v := iv (-1)) rfl) (List.nil_sublist _) ?_
   exfalso
   omega
 refine go ?_
 refine jN [] (Y_heldIntS p.x.a4 p.x.c4 p.t.marks (k + 6 * p.t.calls.length + 3 * p.t.ans.length + p.t.rd.length + p.t.wr.length) (by omega) (by omega)) (hpre := fun w hw => hw.seeOut_ hs_5 nM) ?_
 refine go ?_
 by_cases h_10 : ((k + 6 * p.t.calls.length + 3 * p.t.ans.length + p.t.rd.length + p.t.wr.length + 1 * p.t.marks.length : Nat) : Int) < 0
 · refine go ?_
   refine jE (.inl rfl) rfl (jC (v := iv (-1)) rfl) (List.nil_sublist _) ?_
   exfalso
   omega
 refine go ?_
 exact jJ [] ⟨rfl, rfl⟩
end Go.Proofs.YthlfmbbaomdciaaGreatDoor
