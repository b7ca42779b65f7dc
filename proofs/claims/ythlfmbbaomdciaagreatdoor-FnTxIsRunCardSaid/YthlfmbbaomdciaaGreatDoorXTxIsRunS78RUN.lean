/-
Texts of the walk, joined: what each one proves stands at its theorems.
-/
import Derived.Test.YthlfmbbaomdciaaGreatDoorB7DatTy
set_option linter.unusedSimpArgs false
set_option linter.unusedVariables false
set_option linter.unnecessarySimpa false
namespace Go.Proofs.YthlfmbbaomdciaaGreatDoor
open Go Go.RowKit
theorem bInv.fresh {s : List Cell} {l : List SP} : bInv s l [] [] [] 1 0 0 (TD.new 1 1 1) := ⟨rfl, rfl, by decide, rfl, rfl, rfl, rfl, rfl, Nat.zero_le _, Nat.zero_le _, rfl⟩
theorem is_run {s s' : List Cell} {l o : List SP} {M : List Int} {j : Nat} {z : TD} {a : List AN} {r w : List Str} (h : bInv s l [] [] M 1 l.length j z) (hs : stOk s) (ho : o = (l.take l.length).map fun p => (⟨1, p.call⟩ : SP)) (e : runL s [] [] [] o = (s', a, r, w)) :
   z.ans = a ∧ laidW s (viewA s z) z.wr = s' ∧ viewA s z = s' ∧ rightA s z = true := by
 rw [← h.steps] at ho
 subst ho
 rw [runL_tr _ _ _ _ _ srt.nil srt.nil] at e
 simp only [Prod.mk.injEq, List.nil_append] at e
 obtain ⟨e1, e2, -, -⟩ := e
 have hw : ∀ k ∈ (stepsTr s (stepsOf z)).w, k ∈ z.wr := fun k hk => by rw [h.wr]; exact mem_addAll.2 (.inl hk)
 have hr : ∀ k ∈ (stepsTr s (stepsOf z)).r, k ∈ z.rd := fun k hk => by rw [h.rd]; exact mem_addAll.2 (.inl hk)
 refine ⟨by rw [h.a, e2], by rw [viewA_tr, laid_view hs hw, e1], by rw [viewA_tr, e1], right_iff.2 ⟨h.a.symm, hr, hw⟩⟩
end Go.Proofs.YthlfmbbaomdciaaGreatDoor
set_option maxHeartbeats 4000000
set_option maxRecDepth 4000
namespace Go.Proofs.YthlfmbbaomdciaaGreatDoor
open Go Go.RowKit
attribute [local irreducible] JL JC JQ JO LO PO JA JX Ct
theorem D_serialRun (sa : Option Addr) (sc : Nat) (s : List Cell) (stepsa : Option Addr) (stepsc : Nat) (steps : List SP) (hs : s.length ≤ 20000000) (hsteps : steps.length ≤ 20000000) {n : Nat} (hO : okC' n 1048576 s) (hn : n ≤ 40000000) (hP : okSteps steps) (G : Nat → Nat) (hG : runB s steps G) (hGS : ∀ j, j ≤ steps.length → G j ≤ 28000000) (hGT : sumT G 0 steps.length ≤ 1000000000) :
   Ct Tryz.prog 59 [.slice sa s.length sc, .slice stepsa steps.length stepsc] ([]) (fun w => Sees w (.slice sa s.length sc) 2 s.length (s.flatMap encC) ∧ Sees w (.slice stepsa steps.length stepsc) 7 steps.length (steps.flatMap encP)) (fun v A' => ∃ (sa : Option Addr) (sc : Nat) (s' : List Cell) (oa : Option Addr) (oc : Nat) (o : List AN) (r w : List Str), runL s [] [] [] steps = (s', o, r, w) ∧ okC' (G steps.length) 1048576 s' ∧ o.length = steps.length ∧ v = .tuple #[.slice sa s'.length sc, .slice oa o.length oc] ∧ A' = [rC sa sc s', Res.row (.slice oa o.length oc) 39 3 o.length (o.flatMap encA)]) := by
 refine Ct.intro Tryz.func59 rfl Tryz.ntmps59 (lb rfl) fun w0 hpre => ?_
 have hs_sa : Sees w0 _ _ _ _ := hpre.1
 have hs_stepsa : Sees w0 _ _ _ _ := hpre.2
 refine go ?_
 refine jA [] (D_run15 sa sc s stepsa stepsc steps (by have hl_ := (hO).1; omega) (by omega) hO (by omega) hP G hG hGS hGT) (hpre := fun w hw => ⟨hw.seeOut_ hs_sa nM, hw.seeOut_ hs_stepsa nM⟩) ?_
 rintro _ _ ⟨a_1, c_2, v_3, a_4, c_5, o_6, a_7, c_8, r_9, a_10, c_11, w_12, e_13, hO_14, hl_15, ht_16, rfl, rfl⟩
 refine go ?_
 refine jG [.slice none 0 0, .slice none 0 0] fun b_17 => ?_
 refine go ?_
 refine jD 0 [.slice a_7 r_9.length c_8, .slice a_10 w_12.length c_11] ?_
 refine go ?_
 exact jQ [1, 1] ⟨a_1, c_2, v_3, a_4, c_5, o_6, r_9, w_12, e_13, hO_14, hl_15, rfl, rfl⟩
end Go.Proofs.YthlfmbbaomdciaaGreatDoor
