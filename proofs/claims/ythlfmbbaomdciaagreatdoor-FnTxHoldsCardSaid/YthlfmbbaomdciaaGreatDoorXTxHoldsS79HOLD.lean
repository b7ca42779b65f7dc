/-
Texts of the walk, joined: what each one proves stands at its theorems.
-/
import Derived.Test.YthlfmbbaomdciaaGreatDoorB7DatTy
set_option linter.unusedSimpArgs false
set_option linter.unusedVariables false
set_option linter.unnecessarySimpa false
namespace Go.Proofs.YthlfmbbaomdciaaGreatDoor
open Go Go.RowKit
section
variable {P : Program} {ops : Array Oper} {Q : Exit → Act → World → Prop} {n : Nat} {w0 : World} {D : List Nat} {L M : List Res} {e : Env} {z fuel : Nat} {listed : Array Bool}
theorem JA.takeOffU (i : Nat) {oi : Oper} {j : Nat} {b : Bool} {t : Tmp} (hi : ops[i]? = some oi) (hs : Region.noSelect ops = true) (hQ : NP Q) (hf : Region.free .any ops listed i = true) (hr : (Region.ready .any ops listed).contains i = true)
   (hg : oi.guard = some (j, b)) (hj : (ops[j]?).bind (·.dst) = some t) (ht : Nat.blt t n = true) (hv : e t = undef) (h : JA P ops Q n w0 D M z fuel (listed.setIfInBounds i true) L (updO e oi.dst undef)) :
   JA P ops Q n w0 D M z (fuel + 1) listed L e := fun w hw hq => by
 have hlt : t < n := (Nat.blt_eq (x := t) (y := n)) ▸ ht
 have hyy : yielded ops (act n e).tmps j = none := by simp [yielded, hj, act, hlt, hv, undef]
 exact anyC.firstP hi hs hQ fuel listed (act n e) w (Region.free_spec hi hf) (by simpa using hr) (.inr ⟨by simp [Region.wanted, hg, hyy], rfl⟩) (by rw [act_put]; exact h w hw hq)
end
def storeG (s : List Cell) (i : Nat) : Bool := keyOk (s.getD i c0).1 && (within 1 (((s.getD i c0).2.length : Nat) : Int) 60 && (!decide ((0 : Int) < ((i : Nat) : Int)) || Op.bytesLess (s.getD (i - 1) c0).1 (s.getD i c0).1))
def storeOk (s : List Cell) : Bool := rall s.length (storeG s) && decide (((s.length : Nat) : Int) ≤ 900)
theorem storeOk_bad {s : List Cell} {j : Nat} (h : j < s.length) (hg : storeG s j = false) : storeOk s = false := by rw [storeOk, rall_false h hg, Bool.false_and]
theorem storeOk_end {s : List Cell} {j : Nat} (h : s.length ≤ j) (hN : ∀ i, i < j → storeG s i = true) : storeOk s = decide (((s.length : Nat) : Int) ≤ 900) := by rw [storeOk, rall_true fun i hi => hN i (by omega), Bool.true_and]
end Go.Proofs.YthlfmbbaomdciaaGreatDoor
set_option maxHeartbeats 4000000
set_option maxRecDepth 4000
namespace Go.Proofs.YthlfmbbaomdciaaGreatDoor
open Go Go.RowKit
attribute [local irreducible] JL JC JQ JO LO PO JA JX Ct
theorem Y_l01In (n lo hi : Int) :
   Ct Tryz.prog 153 [.int .i64 n, .int .i64 lo, .int .i64 hi] [] (fun _ => True) (fun v A' => v = .bool (within lo n hi) ∧ A' = []) := by
 refine Ct.intro Tryz.func153 rfl Tryz.ntmps153 (lb rfl) fun w0 hpre => ?_
 refine go ?_
 by_cases h_1 : lo ≤ n
 · refine go ?_
   refine jE (.inl rfl) rfl (jC (v := .bool (decide (n ≤ hi))) rfl) (List.nil_sublist _) ?_
   refine ⟨?_, rfl⟩
   unfold within
   simp_all <;> omega
 refine go ?_
 refine jE (.inl rfl) rfl (jC (v := .bool false) rfl) (List.nil_sublist _) ?_
 refine ⟨?_, rfl⟩
 unfold within
 simp_all <;> omega

theorem Y_specKeyOk (key : Str) (hk : key.length ≤ 9223372036854775807) :
   Ct Tryz.prog 152 [str key] [] (fun _ => True) (fun v A' => v = .bool (keyOk key) ∧ A' = []) := by
 refine Ct.intro Tryz.func152 rfl Tryz.ntmps152 (lb rfl) fun w0 hpre => ?_
 refine go ?_
 refine jL (fun k_ e_ L_ => ∃ j : Nat, (j ≤ key.length) ∧ (∀ i, i < j → i < key.length → keyByte (key.getD i 0) = true) ∧ EL e_ [(0, str key), (3, nv j)] ∧ L_ = [] ∧ k_ = key.length - j) _ ⟨0, by omega, (fun i hi => absurd hi (Nat.not_lt_zero i)), EL.go, rfl, rfl⟩ ?_
 rintro _ _ _ ⟨j, hj, hN, ⟨_, rfl⟩, rfl, rfl⟩
 refine go ?_
 by_cases h_1 : ((j : Nat) : Int) < (key.length : Int)
 · have hlt : j < key.length := by omega
   refine go ?_
   have hu_2 := UInt8.toNat_lt (key.getD j 0)
   refine jK (PO.convI (c := ((key.getD j 0).toNat : Int)) kU kW rfl (wr (by omega))) ?_
   refine jN [] (Y_l01In ((key.getD j 0).toNat : Int) 33 126) ?_
   refine go ?_
   rcases Bool.eq_false_or_eq_true (within 33 ((key.getD j 0).toNat : Int) 126) with h_3 | h_3
   · refine go ?_
     have hu_4 := UInt8.toNat_lt (key.getD j 0)
     refine go ?_
     by_cases h_5 : ((key.getD j 0).toNat : Int) = 42
     · refine go ?_
       refine jE (.inl rfl) rfl (jC (v := .bool false) rfl) (List.nil_sublist _) ?_
       refine ⟨?_, rfl⟩
       rw [keyOk_bad (j := j) (by omega) (by clear hN; simp only [keyByte, within, Bool.and_eq_true, Bool.and_eq_false_iff, decide_eq_true_eq, decide_eq_false_iff_not, Bool.not_eq_true', Bool.not_eq_false'] at *; omega)]
     refine go ?_
     refine jV (key.length - (j + 1)) (by omega) ⟨j + 1, by omega, (fun i hi hl => if h : i = j then h ▸ (by clear hN; simp only [keyByte, within, Bool.and_eq_true, Bool.and_eq_false_iff, decide_eq_true_eq, decide_eq_false_iff_not, Bool.not_eq_true', Bool.not_eq_false'] at *; omega : keyByte (key.getD j 0) = true) else hN i (by omega) hl), EL.go, rfl, rfl⟩
   refine go ?_
   refine jE (.inl rfl) rfl (jC (v := .bool false) rfl) (List.nil_sublist _) ?_
   refine ⟨?_, rfl⟩
   rw [keyOk_bad (j := j) (by omega) (by clear hN; simp only [keyByte, within, Bool.and_eq_true, Bool.and_eq_false_iff, decide_eq_true_eq, decide_eq_false_iff_not, Bool.not_eq_true', Bool.not_eq_false'] at *; omega)]
 refine go ?_
 refine jN [] (Y_l01In (key.length : Int) 1 40) ?_
 refine go ?_
 refine jE (.inl rfl) rfl (jC (v := .bool (within 1 (key.length : Int) 40)) rfl) (List.nil_sublist _) ?_
 refine ⟨?_, rfl⟩
 rw [keyOk_good (j := j) (by omega) hN]
 exact cB (by unfold within; congr 1 <;> exact decide_eq_decide.2 (by omega))

set_option maxRecDepth 4000 in
theorem Y_specStoreOk (a : Option Addr) (c : Nat) (s : List Cell) (hs : okC s) :
   Ct Tryz.prog 64 [.slice a s.length c] [] (fun w_ => Sees w_ (.slice a s.length c) 2 s.length (s.flatMap encC)) (fun v A' => v = .bool (storeOk s) ∧ A' = []) := by
 refine Ct.intro Tryz.func64 rfl Tryz.ntmps64 (lb rfl) fun w0 hpre => ?_
 have hs_a : Sees w0 _ _ _ _ := hpre
 have hsl := hs.1
 refine go ?_
 refine jL (fun k_ e_ L_ => ∃ j : Nat, (j ≤ s.length) ∧ (∀ i, i < j → storeG s i = true) ∧ EL e_ [(0, .slice a s.length c), (3, nv j)] ∧ L_ = [] ∧ k_ = s.length - j) _ ⟨0, by omega, (fun i hi => absurd hi (Nat.not_lt_zero i)), EL.go, rfl, rfl⟩ ?_
 rintro _ _ _ ⟨j, hj, hN, ⟨_, rfl⟩, rfl, rfl⟩
 refine go ?_
 by_cases h_1 : ((j : Nat) : Int) < ((s.length : Nat) : Int)
 · have hlt : j < s.length := by omega
   refine go ?_
   refine jH [] 1000 ?_
   refine go ?_
   obtain ⟨hr_2, hr_2b, -⟩ := sees_some hs_a (by omega)
   refine go ?_
   refine jk 4 rfl (jY (v := str (s.getD j c0).1) hs_a nM rfl kJ (atC1 (by omega))) ?_
   refine jB (i := 5) ?_
   refine jI [] (Y_specKeyOk (s.getD j c0).1 (hs.2 j hlt).1) ?_
   rintro _ _ ⟨rfl, rfl⟩
   refine go ?_
   rcases Bool.eq_false_or_eq_true (keyOk (s.getD j c0).1) with h_3 | h_3
   · refine go ?_
     refine kG 12 rfl (by kernel_rfl) (NP.th (NP.bl (NP.th (NP.th (NP.bl (NP.th NP.body)))))) (by kernel_rfl) (by kernel_rfl) (by kernel_rfl) rfl rfl rfl (cB (cN h_3)) (jY (v := str (s.getD j c0).2) hs_a nM rfl kJ (atC2 (by omega))) ?_
     refine go ?_
     refine jB (i := 14) ?_
     refine jn rfl rfl rfl rfl (cB (cN h_3)) (jO [] Tryz.call153 rfl (Y_l01In ((s.getD j c0).2.length : Int) 1 60) rfl (fun _ _ => trivial)) ?_
     rintro _ _ ⟨_, ⟨rfl, rfl⟩, rfl⟩
     refine ⟨all_go, ?_⟩
     refine go ?_
     rcases Bool.eq_false_or_eq_true (within 1 ((s.getD j c0).2.length : Int) 60) with h_4 | h_4
     · refine go ?_
       by_cases h_5 : 0 < ((j : Nat) : Int)
       · refine go ?_
         refine jq 23 rfl (by kernel_rfl) (NP.th (NP.bl (NP.th (NP.th (NP.bl (NP.th NP.body)))))) (by kernel_rfl) (by kernel_rfl) rfl rfl rfl (cB (dT h_5)) (jg (c := ((j - 1 : Nat) : Int)) rfl rfl (wr (by omega))) <| jq 24 rfl (by kernel_rfl) (NP.th (NP.bl (NP.th (NP.th (NP.bl (NP.th NP.body)))))) (by kernel_rfl) (by kernel_rfl) rfl rfl rfl (cB (dT h_5)) (PO.indexAddrV (i := (j - 1)) kK kP hr_2 hr_2b rfl rfl (by omega)) <| jq 25 rfl (by kernel_rfl) (NP.th (NP.bl (NP.th (NP.th (NP.bl (NP.th NP.body)))))) (by kernel_rfl) (by kernel_rfl) rfl rfl rfl (cB (dT h_5)) (PO.fieldAddrE fo130_0 hr_2 rfl) <| kG 26 rfl (by kernel_rfl) (NP.th (NP.bl (NP.th (NP.th (NP.bl (NP.th NP.body)))))) (by kernel_rfl) (by kernel_rfl) (by kernel_rfl) rfl rfl rfl (cB (dT h_5)) (jY (v := str (s.getD (j - 1) c0).1) hs_a nM rfl kJ (atC1 (by omega))) <| jq 27 rfl (by kernel_rfl) (NP.th (NP.bl (NP.th (NP.th (NP.bl (NP.th NP.body)))))) (by kernel_rfl) (by kernel_rfl) rfl rfl rfl (cB (dT h_5)) (PO.move (v := .slice a s.length c) rfl) <| jq 28 rfl (by kernel_rfl) (NP.th (NP.bl (NP.th (NP.th (NP.bl (NP.th NP.body)))))) (by kernel_rfl) (by kernel_rfl) rfl rfl rfl (cB (dT h_5)) (PO.move (v := nv j) rfl) <| jq 29 rfl (by kernel_rfl) (NP.th (NP.bl (NP.th (NP.th (NP.bl (NP.th NP.body)))))) (by kernel_rfl) (by kernel_rfl) rfl rfl rfl (cB (dT h_5)) (PO.indexAddrV (i := j) kK kP hr_2 hr_2b rfl rfl (by omega)) <| jq 30 rfl (by kernel_rfl) (NP.th (NP.bl (NP.th (NP.th (NP.bl (NP.th NP.body)))))) (by kernel_rfl) (by kernel_rfl) rfl rfl rfl (cB (dT h_5)) (PO.fieldAddrE fo130_0 hr_2 rfl) <| kG 31 rfl (by kernel_rfl) (NP.th (NP.bl (NP.th (NP.th (NP.bl (NP.th NP.body)))))) (by kernel_rfl) (by kernel_rfl) (by kernel_rfl) rfl rfl rfl (cB (dT h_5)) (jY (v := str (s.getD j c0).1) hs_a nM rfl kJ (atC1 (by omega))) <| jq 32 rfl (by kernel_rfl) (NP.th (NP.bl (NP.th (NP.th (NP.bl (NP.th NP.body)))))) (by kernel_rfl) (by kernel_rfl) rfl rfl rfl (cB (dT h_5)) (PO.geqS rfl rfl) ?_
         refine jq 33 rfl (by kernel_rfl) (NP.th (NP.bl (NP.th (NP.th (NP.bl (NP.th NP.body)))))) (by kernel_rfl) (by kernel_rfl) rfl rfl rfl (cB (cN h_4)) (PO.pickT (v := .bool (!(Op.bytesLess (s.getD (j - 1) c0).1 (s.getD j c0).1))) (cB (dT h_5)) rfl) <| jd 34 rfl (PO.pickF (v := .bool (!(Op.bytesLess (s.getD (j - 1) c0).1 (s.getD j c0).1))) (cB (cN h_4)) rfl) ?_
         refine go ?_
         rcases Bool.eq_false_or_eq_true (Op.bytesLess (s.getD (j - 1) c0).1 (s.getD j c0).1) with h_6 | h_6
         · refine go ?_
           refine jV (s.length - (j + 1)) (by omega) ⟨j + 1, by omega, (fun i hi => if h : i = j then h ▸ (by simp only [storeG, Bool.and_true, Bool.true_and, Bool.and_false, Bool.false_and, Bool.or_true, Bool.true_or, Bool.or_false, Bool.false_or, Bool.not_true, Bool.not_false, ((dT h_1)), (h_3), (h_4), ((dT h_5)), (h_6)]) else hN i (by omega)), EL.go, rfl, rfl⟩
         refine go ?_
         refine jE (.inl rfl) rfl (jC (v := .bool false) rfl) (List.nil_sublist _) ?_
         exact ⟨cB (storeOk_bad hlt (by simp only [storeG, Bool.and_true, Bool.true_and, Bool.and_false, Bool.false_and, Bool.or_true, Bool.true_or, Bool.or_false, Bool.false_or, Bool.not_true, Bool.not_false, ((dT h_1)), (h_3), (h_4), ((dT h_5)), (h_6)])).symm, rfl⟩
       refine go ?_
       refine JA.takeOff 24 (b := false) rfl (by kernel_rfl) (NP.th (NP.bl (NP.th (NP.th (NP.bl (NP.th NP.body)))))) (by kernel_rfl) (by kernel_rfl) rfl rfl rfl (cB (dF h_5)) <| JA.takeOff 25 (b := false) rfl (by kernel_rfl) (NP.th (NP.bl (NP.th (NP.th (NP.bl (NP.th NP.body)))))) (by kernel_rfl) (by kernel_rfl) rfl rfl rfl (cB (dF h_5)) <| JA.takeOff 26 (b := false) rfl (by kernel_rfl) (NP.th (NP.bl (NP.th (NP.th (NP.bl (NP.th NP.body)))))) (by kernel_rfl) (by kernel_rfl) rfl rfl rfl (cB (dF h_5)) <| JA.takeOff 27 (b := false) rfl (by kernel_rfl) (NP.th (NP.bl (NP.th (NP.th (NP.bl (NP.th NP.body)))))) (by kernel_rfl) (by kernel_rfl) rfl rfl rfl (cB (dF h_5)) <| JA.takeOff 28 (b := false) rfl (by kernel_rfl) (NP.th (NP.bl (NP.th (NP.th (NP.bl (NP.th NP.body)))))) (by kernel_rfl) (by kernel_rfl) rfl rfl rfl (cB (dF h_5)) <| JA.takeOff 29 (b := false) rfl (by kernel_rfl) (NP.th (NP.bl (NP.th (NP.th (NP.bl (NP.th NP.body)))))) (by kernel_rfl) (by kernel_rfl) rfl rfl rfl (cB (dF h_5)) <| JA.takeOff 30 (b := false) rfl (by kernel_rfl) (NP.th (NP.bl (NP.th (NP.th (NP.bl (NP.th NP.body)))))) (by kernel_rfl) (by kernel_rfl) rfl rfl rfl (cB (dF h_5)) <| JA.takeOff 31 (b := false) rfl (by kernel_rfl) (NP.th (NP.bl (NP.th (NP.th (NP.bl (NP.th NP.body)))))) (by kernel_rfl) (by kernel_rfl) rfl rfl rfl (cB (dF h_5)) <| JA.takeOff 32 (b := false) rfl (by kernel_rfl) (NP.th (NP.bl (NP.th (NP.th (NP.bl (NP.th NP.body)))))) (by kernel_rfl) (by kernel_rfl) rfl rfl rfl (cB (dF h_5)) <| jq 33 rfl (by kernel_rfl) (NP.th (NP.bl (NP.th (NP.th (NP.bl (NP.th NP.body)))))) (by kernel_rfl) (by kernel_rfl) rfl rfl rfl (cB (cN h_4)) (PO.pickF (v := .bool false) (cB (dF h_5)) rfl) ?_
       refine jd 34 rfl (PO.pickF (v := .bool false) (cB (cN h_4)) rfl) ?_
       refine go ?_
       refine jV (s.length - (j + 1)) (by omega) ⟨j + 1, by omega, (fun i hi => if h : i = j then h ▸ (by simp only [storeG, Bool.and_true, Bool.true_and, Bool.and_false, Bool.false_and, Bool.or_true, Bool.true_or, Bool.or_false, Bool.false_or, Bool.not_true, Bool.not_false, ((dT h_1)), (h_3), (h_4), ((dF h_5))]) else hN i (by omega)), EL.go, rfl, rfl⟩
     refine go ?_
     refine JA.takeOffU 24 rfl (by kernel_rfl) (NP.th (NP.bl (NP.th (NP.th (NP.bl (NP.th NP.body)))))) (by kernel_rfl) (by kernel_rfl) rfl rfl rfl rfl <| JA.takeOffU 25 rfl (by kernel_rfl) (NP.th (NP.bl (NP.th (NP.th (NP.bl (NP.th NP.body)))))) (by kernel_rfl) (by kernel_rfl) rfl rfl rfl rfl <| JA.takeOffU 26 rfl (by kernel_rfl) (NP.th (NP.bl (NP.th (NP.th (NP.bl (NP.th NP.body)))))) (by kernel_rfl) (by kernel_rfl) rfl rfl rfl rfl <| JA.takeOffU 27 rfl (by kernel_rfl) (NP.th (NP.bl (NP.th (NP.th (NP.bl (NP.th NP.body)))))) (by kernel_rfl) (by kernel_rfl) rfl rfl rfl rfl <| JA.takeOffU 28 rfl (by kernel_rfl) (NP.th (NP.bl (NP.th (NP.th (NP.bl (NP.th NP.body)))))) (by kernel_rfl) (by kernel_rfl) rfl rfl rfl rfl <| JA.takeOffU 29 rfl (by kernel_rfl) (NP.th (NP.bl (NP.th (NP.th (NP.bl (NP.th NP.body)))))) (by kernel_rfl) (by kernel_rfl) rfl rfl rfl rfl <| JA.takeOffU 30 rfl (by kernel_rfl) (NP.th (NP.bl (NP.th (NP.th (NP.bl (NP.th NP.body)))))) (by kernel_rfl) (by kernel_rfl) rfl rfl rfl rfl <| JA.takeOffU 31 rfl (by kernel_rfl) (NP.th (NP.bl (NP.th (NP.th (NP.bl (NP.th NP.body)))))) (by kernel_rfl) (by kernel_rfl) rfl rfl rfl rfl <| JA.takeOffU 32 rfl (by kernel_rfl) (NP.th (NP.bl (NP.th (NP.th (NP.bl (NP.th NP.body)))))) (by kernel_rfl) (by kernel_rfl) rfl rfl rfl rfl <| JA.takeOff 33 (b := true) rfl (by kernel_rfl) (NP.th (NP.bl (NP.th (NP.th (NP.bl (NP.th NP.body)))))) (by kernel_rfl) (by kernel_rfl) rfl rfl rfl (cB (cN h_4)) ?_
     refine jd 34 rfl (PO.pickT (v := .bool true) (cB (cN h_4)) rfl) ?_
     refine go ?_
     refine jE (.inl rfl) rfl (jC (v := .bool false) rfl) (List.nil_sublist _) ?_
     exact ⟨cB (storeOk_bad hlt (by simp only [storeG, Bool.and_true, Bool.true_and, Bool.and_false, Bool.false_and, Bool.or_true, Bool.true_or, Bool.or_false, Bool.false_or, Bool.not_true, Bool.not_false, ((dT h_1)), (h_3), (h_4)])).symm, rfl⟩
   refine go ?_
   refine JA.takeOffU 24 rfl (by kernel_rfl) (NP.th (NP.bl (NP.th (NP.th (NP.bl (NP.th NP.body)))))) (by kernel_rfl) (by kernel_rfl) rfl rfl rfl rfl <| JA.takeOffU 25 rfl (by kernel_rfl) (NP.th (NP.bl (NP.th (NP.th (NP.bl (NP.th NP.body)))))) (by kernel_rfl) (by kernel_rfl) rfl rfl rfl rfl <| JA.takeOffU 26 rfl (by kernel_rfl) (NP.th (NP.bl (NP.th (NP.th (NP.bl (NP.th NP.body)))))) (by kernel_rfl) (by kernel_rfl) rfl rfl rfl rfl <| JA.takeOffU 27 rfl (by kernel_rfl) (NP.th (NP.bl (NP.th (NP.th (NP.bl (NP.th NP.body)))))) (by kernel_rfl) (by kernel_rfl) rfl rfl rfl rfl <| JA.takeOffU 28 rfl (by kernel_rfl) (NP.th (NP.bl (NP.th (NP.th (NP.bl (NP.th NP.body)))))) (by kernel_rfl) (by kernel_rfl) rfl rfl rfl rfl <| JA.takeOffU 29 rfl (by kernel_rfl) (NP.th (NP.bl (NP.th (NP.th (NP.bl (NP.th NP.body)))))) (by kernel_rfl) (by kernel_rfl) rfl rfl rfl rfl <| JA.takeOffU 30 rfl (by kernel_rfl) (NP.th (NP.bl (NP.th (NP.th (NP.bl (NP.th NP.body)))))) (by kernel_rfl) (by kernel_rfl) rfl rfl rfl rfl <| JA.takeOffU 31 rfl (by kernel_rfl) (NP.th (NP.bl (NP.th (NP.th (NP.bl (NP.th NP.body)))))) (by kernel_rfl) (by kernel_rfl) rfl rfl rfl rfl <| JA.takeOffU 32 rfl (by kernel_rfl) (NP.th (NP.bl (NP.th (NP.th (NP.bl (NP.th NP.body)))))) (by kernel_rfl) (by kernel_rfl) rfl rfl rfl rfl <| JA.takeOff 33 (b := true) rfl (by kernel_rfl) (NP.th (NP.bl (NP.th (NP.th (NP.bl (NP.th NP.body)))))) (by kernel_rfl) (by kernel_rfl) rfl rfl rfl (cB rfl) ?_
   refine jd 34 rfl (PO.pickT (v := .bool true) (cB rfl) rfl) ?_
   refine go ?_
   refine jE (.inl rfl) rfl (jC (v := .bool false) rfl) (List.nil_sublist _) ?_
   exact ⟨cB (storeOk_bad hlt (by simp only [storeG, Bool.and_true, Bool.true_and, Bool.and_false, Bool.false_and, Bool.or_true, Bool.true_or, Bool.or_false, Bool.false_or, Bool.not_true, Bool.not_false, ((dT h_1)), (h_3)])).symm, rfl⟩
 refine go ?_
 refine jE (.inl rfl) rfl (jC (v := .bool (decide (((s.length : Nat) : Int) ≤ 900))) rfl) (List.nil_sublist _) ?_
 exact ⟨cB (storeOk_end (by omega) hN).symm, rfl⟩
end Go.Proofs.YthlfmbbaomdciaaGreatDoor
namespace Go.Proofs.YthlfmbbaomdciaaGreatDoor
open Go Go.RowKit
def diffF (a b : List Cell) (o : List Str) (k : Str) : List Str := if getKey a k = getKey b k then o else addSpan o k
def keysAB (a b : List Cell) : List Str := a.map Prod.fst ++ b.map Prod.fst
/-- The keys at which two stores differ. -/
def diffK (a b : List Cell) : List Str := (keysAB a b).foldl (diffF a b) []
theorem keysAB_len (a b : List Cell) : (keysAB a b).length = a.length + b.length := by simp [keysAB]
theorem keysAB_l {a b : List Cell} {i : Nat} (h : i < a.length) : (keysAB a b).getD i [] = (a.getD i c0).1 := by
 simp only [keysAB, List.getD_eq_getElem?_getD]
 rw [List.getElem?_append_left (by simp; omega), List.getElem?_map, List.getElem?_eq_getElem h]
 rfl
theorem keysAB_r {a b : List Cell} {i : Nat} (h : a.length ≤ i) (h2 : i < a.length + b.length) : (keysAB a b).getD i [] = (b.getD (i - a.length) c0).1 := by
 simp only [keysAB, List.getD_eq_getElem?_getD]
 rw [List.getElem?_append_right (by simp; omega), List.length_map, List.getElem?_map, List.getElem?_eq_getElem (show i - a.length < b.length by omega)]
 rfl
theorem diff_step {a b : List Cell} {i : Nat} {o : List Str} {k : Str} (h : i < a.length + b.length) (hk : (keysAB a b).getD i [] = k) (ho : o = ((keysAB a b).take i).foldl (diffF a b) []) :
   diffF a b o k = ((keysAB a b).take (i + 1)).foldl (diffF a b) [] := by
 rw [take_at (getD_some (d := ([] : Str)) (show i < (keysAB a b).length by rw [keysAB_len]; exact h)), List.foldl_append, ← ho, hk]
 rfl
theorem diffF_len (a b : List Cell) (o : List Str) (k : Str) : (diffF a b o k).length ≤ o.length + 1 := by
 unfold diffF
 split
 · omega
 · exact (addSpan_len o k).2
theorem diffL_len (a b : List Cell) : ∀ (l : List Str) (o : List Str), (l.foldl (diffF a b) o).length ≤ o.length + l.length
 | [], o => Nat.le_refl _
 | k :: l, o => by
   have h1 := diffL_len a b l (diffF a b o k)
   have h2 := diffF_len a b o k
   simp only [List.foldl_cons, List.length_cons] at *
   omega
theorem diffK_len (a b : List Cell) : (diffK a b).length ≤ a.length + b.length := by
 have := diffL_len a b (keysAB a b) []
 rw [keysAB_len, List.length_nil] at this
 unfold diffK
 omega
theorem mem_diffL {a b : List Cell} {x : Str} : ∀ (l : List Str) (o : List Str), x ∈ l.foldl (diffF a b) o ↔ (x ∈ l ∧ ¬ getKey a x = getKey b x) ∨ x ∈ o
 | [], o => by simp
 | k :: l, o => by
   rw [List.foldl_cons, mem_diffL l]
   have h : x ∈ diffF a b o k ↔ (x = k ∧ ¬ getKey a x = getKey b x) ∨ x ∈ o := by
     unfold diffF
     split
     · rename_i he
       constructor
       · exact .inr
       · rintro (⟨rfl, h2⟩ | h)
         · exact absurd he h2
         · exact h
     · rename_i he
       rw [mem_addSpan]
       constructor
       · rintro (rfl | h)
         · exact .inl ⟨rfl, he⟩
         · exact .inr h
       · rintro (⟨rfl, _⟩ | h)
         · exact .inl rfl
         · exact .inr h
   rw [h, List.mem_cons]
   constructor
   · rintro (⟨h1, h2⟩ | ⟨h1, h2⟩ | h3)
     · exact .inl ⟨.inr h1, h2⟩
     · exact .inl ⟨.inl h1, h2⟩
     · exact .inr h3
   · rintro (⟨h1 | h1, h2⟩ | h3)
     · exact .inr (.inl ⟨h1, h2⟩)
     · exact .inl ⟨h1, h2⟩
     · exact .inr (.inr h3)
theorem mem_diffK {a b : List Cell} {x : Str} : x ∈ diffK a b ↔ x ∈ keysAB a b ∧ ¬ getKey a x = getKey b x := by
 unfold diffK
 rw [mem_diffL]
 simp
theorem diff_ne {a b : List Cell} {x : Str} (h : x ∈ diffK a b) : ¬ getKey a x = getKey b x := (mem_diffK.1 h).2
theorem agree_diff (a b : List Cell) : agree (diffK a b) a b := fun k hk => by
 by_cases he : getKey a k = getKey b k
 · exact he
 · refine absurd (mem_diffK.2 ⟨?_, he⟩) hk
   rcases getKey_mem (s := a) (key := k) with h | ⟨d, hd, h1, _⟩
   · rcases getKey_mem (s := b) (key := k) with h' | ⟨d, hd, h1, _⟩
     · exact absurd (h.trans h'.symm) he
     · exact List.mem_append_right _ (List.mem_map.2 ⟨d, hd, h1⟩)
   · exact List.mem_append_left _ (List.mem_map.2 ⟨d, hd, h1⟩)
theorem diffK_le {a b : List Cell} {n : Nat} (ha : ∀ c ∈ a, c.1.length ≤ n) (hb : ∀ c ∈ b, c.1.length ≤ n) : ∀ x ∈ diffK a b, x.length ≤ n := fun x hx => by
 rcases List.mem_append.1 (mem_diffK.1 hx).1 with h | h
 · obtain ⟨c, hc, rfl⟩ := List.mem_map.1 h; exact ha c hc
 · obtain ⟨c, hc, rfl⟩ := List.mem_map.1 h; exact hb c hc
theorem diffK_ok {a b : List Cell} (h : (diffK a b).length ≤ a.length + b.length) (ha : ∀ c ∈ a, c.1.length ≤ 3000000) (hb : ∀ c ∈ b, c.1.length ≤ 3000000) (hn : a.length + b.length ≤ 1000000000 := by omega) : okS (diffK a b) :=
 ⟨by omega, fun j hj => by have := diffK_le ha hb _ (getD_mem (d := ([] : Str)) hj); omega⟩
theorem okS_one {x : Str} (h : x.length ≤ 9223372036854775807) : okS [x] := ⟨by simp only [List.length_cons, List.length_nil]; omega, fun j hj => by
 have : j = 0 := by simp only [List.length_cons, List.length_nil] at hj; omega
 subst this; exact h⟩
/-- Each key lies within one of the spans. -/
def coversB (l k : List Str) : Bool := k.all fun x => l.any fun y => spanHas y x
theorem coversB_true {l k : List Str} {j : Nat} (h : k.length ≤ j) (hN : ∀ i, i < j → (l.any fun q => spanHas q (k.getD i [])) = true) : coversB l k = true := List.all_eq_true.2 fun x hx => by
 obtain ⟨i, hi, rfl⟩ := List.getElem_of_mem hx
 have h1 := hN i (by omega)
 rwa [List.getD_eq_getElem?_getD, List.getElem?_eq_getElem hi] at h1
theorem coversB_false {l k : List Str} {j : Nat} (h : j < k.length) (hn : (l.any fun q => spanHas q (k.getD j [])) = false) : coversB l k = false := by
 cases hb : coversB l k with
 | false => rfl
 | true => rw [List.all_eq_true.1 hb _ (getD_mem (d := ([] : Str)) h)] at hn; cases hn
/-- Nothing in the spans differs. -/
def agreeB (a b : List Cell) (l : List Str) : Bool := (diffK a b).all fun x => !coversB l [x]
theorem agreeB_true {a b : List Cell} {l : List Str} {j : Nat} (h : (diffK a b).length ≤ j) (hN : ∀ i, i < j → coversB l [(diffK a b).getD i []] = false) : agreeB a b l = true := List.all_eq_true.2 fun x hx => by
 obtain ⟨i, hi, rfl⟩ := List.getElem_of_mem hx
 have h1 := hN i (by omega)
 rw [List.getD_eq_getElem?_getD, List.getElem?_eq_getElem hi] at h1
 exact (congrArg (!·) h1 :)
theorem agreeB_false {a b : List Cell} {l : List Str} {j : Nat} (h : j < (diffK a b).length) (hn : coversB l [(diffK a b).getD j []] = true) : agreeB a b l = false := by
 cases hb : agreeB a b l with
 | false => rfl
 | true => have h1 := List.all_eq_true.1 hb _ (getD_mem (d := ([] : Str)) h); rw [hn] at h1; cases h1
theorem span_self (k : Str) : spanHas k k = true := by
 unfold spanHas
 split
 · unfold cutSuf
   split
   · exact pfx_iff.2 ⟨k.drop (k.length - 1), by simp⟩
   · exact pfx_self k
 · simp
theorem meet_span : Meet spanHas where
 k := span_self
 u p w h := by
   unfold spanHas
   rw [cut_star]
   simp [h]
theorem off_agree {a b : List Cell} {l : List Str} (h : agreeB a b l = true) : off spanHas l (diffK a b) := fun y hy x hx => by
 have h1 := List.all_eq_true.1 h x hx
 cases hb : spanHas y x with
 | false => rfl
 | true =>
   have : coversB l [x] = true := by simp only [coversB, List.all_cons, List.all_nil, Bool.and_true, List.any_eq_true]; exact ⟨y, hy, hb⟩
   rw [this] at h1; cases h1
theorem only_laid {s v : List Cell} (hs : stOk s) (hv : stOk v) (w : List Str) : coversB w (diffK s (laidW s v w)) = true := List.all_eq_true.2 fun x hx => by
 have h1 := diff_ne hx
 rw [get_laid hv w hs] at h1
 by_cases hw : x ∈ w
 · exact List.any_eq_true.2 ⟨x, hw, span_self x⟩
 · rw [if_neg hw] at h1; exact absurd rfl h1
theorem right_agree {s s' : List Cell} {t : TD} (hs : stOk s) (hs' : stOk s') (h : rightA s t = true) (ha : agreeB s s' t.rd = true) : rightA s' t = true := by
 obtain ⟨h1, h2, h3⟩ := right_iff.1 h
 have ho := off_agree ha
 obtain ⟨g1, g2, g3, _⟩ := local_steps meet_span (stepsOf t) hs hs' (agree_diff s s') fun x hx k hk => ho x (h2 x hx) k hk
 exact right_iff.2 ⟨by rw [g1]; exact h1, by rw [g2]; exact h2, by rw [g3]; exact h3⟩
theorem stOk.view {s : List Cell} (h : stOk s) (t : TD) : stOk (viewA s t) := by rw [viewA_tr]; exact h.steps _
section
variable {s : List Cell} {l : List SP} {r w : List Str} {M : List Int} {P : Int} {i j : Nat} {t z : TD}
theorem bInv.hstep {c : CL} {a : AN} (h : bInv s l [] [] [] P i i t) (hl : okSteps l) (hn : l.length = i) (hi : i < 12) (hc : c.ok 1048576) (e : TD.askV (viewA s t) t c = (z, a))
   (hb : z.rd.length ≤ t.rd.length + 20000000 ∧ z.wr.length ≤ t.wr.length + 20000000) : hInv s P (i + 1) z := by
 have hg : (l ++ [(⟨P, c⟩ : SP)]).getD i p0_ = ⟨P, c⟩ := by subst hn; simp [List.getD_eq_getElem?_getD]
 refine ⟨l ++ [(⟨P, c⟩ : SP)], hl.add hc (by have := h.q; dsimp only; omega), by simp [hn], (h.more ⟨P, c⟩ hn).step (by simp; omega) (by simp; omega) srt.nil srt.nil (by rw [hg]; exact e) hb⟩
end
theorem keys3 {n : Nat} {s : List Cell} (h : okC' n 1048576 s) : ∀ c ∈ s, c.1.length ≤ 3000000 := fun c hc => Nat.le_trans (h.2 c hc).1 (by decide)
theorem okC'.full {n : Nat} {s : List Cell} (h : okC' n 1048576 s) (hn : n ≤ 1000000000) : okC s := ⟨by have := h.1; omega, fun j hj => by have := h.2 _ (getD_mem (d := c0) hj); omega⟩
end Go.Proofs.YthlfmbbaomdciaaGreatDoor
namespace Go.Proofs.YthlfmbbaomdciaaGreatDoor
open Go Go.RowKit
attribute [local irreducible] JL JC JQ JO LO PO JA JX Ct
set_option maxRecDepth 4000 in
theorem Y_diff (sa : Option Addr) (sc : Nat) (s : List Cell) (hns : s.length ≤ 400000000) (hks : ∀ c ∈ s, c.1.length ≤ 3000000) (ta : Option Addr) (tc : Nat) (t : List Cell) (hnt : t.length ≤ 400000000) (hkt : ∀ c ∈ t, c.1.length ≤ 3000000) :
   Ct Tryz.prog 151 [.slice sa s.length sc, .slice ta t.length tc] [] (fun w => Sees w (.slice sa s.length sc) 2 s.length (s.flatMap encC) ∧ Sees w (.slice ta t.length tc) 2 t.length (t.flatMap encC)) (fun v A' => ∃ a c, v = .slice a (diffK s t).length c ∧ A' = [rS a c (diffK s t)]) := by
 refine Ct.intro Tryz.func151 rfl Tryz.ntmps151 (lb rfl) fun w0 hpre => ?_
 have hs_sa : Sees w0 _ _ _ _ := hpre.1
 have hs_ta : Sees w0 _ _ _ _ := hpre.2
 refine go ?_
 refine jF rfl (jR (ps := []) (cur := #[]) kI kM kV rfl (by kernel_rfl) (by decide) (by decide)) ?_
 rintro _ _ ⟨a_1, rfl, rfl⟩
 refine go ?_
 refine jL (fun k_ e_ L_ => ∃ i_ : Nat, ∃ oa : Option Addr, ∃ oc : Nat, ∃ o_ : List Str, (i_ ≤ s.length + t.length) ∧ (o_ = ((keysAB s t).take i_).foldl (diffF s t) []) ∧ (o_.length ≤ i_) ∧ EL e_ [(0, .slice sa s.length sc), (1, .slice ta t.length tc), (4, .slice none 0 0), (5, .slice oa o_.length oc), (6, nv i_)] ∧ L_ = [rS oa oc o_] ∧ k_ = s.length + t.length - i_) _ ⟨0, a_1, 0, ([] : List Str), by omega, rfl, (Nat.zero_le _), EL.go, rfl, rfl⟩ ?_
 rintro _ _ _ ⟨i_, oa, oc, o_, hi, ho, hol, ⟨_, rfl⟩, rfl, rfl⟩
 refine go ?_
 by_cases h_2 : ((i_ : Nat) : Int) < ((s.length + t.length : Nat) : Int)
 · refine go ?_
   by_cases h_3 : ((i_ : Nat) : Int) < ((s.length : Nat) : Int)
   · have hkey := keysAB_l (b := t) (show i_ < s.length by omega)
     refine go ?_
     obtain ⟨hr_4, hr_4b, -⟩ := sees_some hs_sa (by omega)
     refine go ?_
     refine jU (jY (v := str (s.getD i_ c0).1) hs_sa nM rfl kJ (atC1 (by omega))) ?_
     refine go ?_
     refine jN [] (C_sGetKey sa sc s (s.getD i_ c0).1 (by omega)) (hpre := fun w hw => hw.seeOut_ hs_sa nM) ?_
     refine go ?_
     refine jN [] (C_sGetKey ta tc t (s.getD i_ c0).1 (by omega)) (hpre := fun w hw => hw.seeOut_ hs_ta nM) ?_
     refine go ?_
     by_cases h_5 : (getKey s (s.getD i_ c0).1) = (getKey t (s.getD i_ c0).1)
     · refine go ?_
       exact jP [0] ⟨i_ + 1, oa, oc, o_, by omega, (by rw [← diff_step (by omega) hkey ho]; unfold diffF; rw [if_pos h_5]), (by omega), EL.go, rfl, rfl⟩
     refine go ?_
     refine jA [] (C_l02Put oa oc o_ (s.getD i_ c0).1 (by omega)) (hpre := fun w hw => hw.see (i := 0) rfl) ?_
     rintro _ _ (⟨rfl, hsame, rfl⟩ | ⟨a_6, c_7, rfl, rfl⟩)
     · have hal7 := addSpan_len o_ (s.getD i_ c0).1
       refine go ?_
       exact jP [0] ⟨i_ + 1, oa, oc, o_, by omega, (by rw [← diff_step (by omega) hkey ho]; unfold diffF; rw [if_neg h_5]; exact hsame.symm), (by omega), EL.go, rfl, rfl⟩
     have hal7 := addSpan_len o_ (s.getD i_ c0).1
     refine go ?_
     exact jP [0] ⟨i_ + 1, a_6, c_7, (addSpan o_ (s.getD i_ c0).1), by omega, (by rw [← diff_step (by omega) hkey ho]; unfold diffF; rw [if_neg h_5]), (by have h_ := addSpan_len o_ (s.getD i_ c0).1; omega), EL.go, rfl, rfl⟩
   have hkey := keysAB_r (show s.length ≤ i_ by omega) (show i_ < s.length + t.length by omega)
   refine go ?_
   refine jK (jg (c := ((i_ - s.length : Nat) : Int)) rfl rfl (wr (by omega))) ?_
   obtain ⟨hr_8, hr_8b, -⟩ := sees_some hs_ta (by omega)
   refine go ?_
   refine jU (jY (v := str (t.getD (i_ - s.length) c0).1) hs_ta nM rfl kJ (atC1 (by omega))) ?_
   refine go ?_
   refine jN [] (C_sGetKey sa sc s (t.getD (i_ - s.length) c0).1 (by omega)) (hpre := fun w hw => hw.seeOut_ hs_sa nM) ?_
   refine go ?_
   refine jN [] (C_sGetKey ta tc t (t.getD (i_ - s.length) c0).1 (by omega)) (hpre := fun w hw => hw.seeOut_ hs_ta nM) ?_
   refine go ?_
   by_cases h_9 : (getKey s (t.getD (i_ - s.length) c0).1) = (getKey t (t.getD (i_ - s.length) c0).1)
   · refine go ?_
     exact jP [0] ⟨i_ + 1, oa, oc, o_, by omega, (by rw [← diff_step (by omega) hkey ho]; unfold diffF; rw [if_pos h_9]), (by omega), EL.go, rfl, rfl⟩
   refine go ?_
   refine jA [] (C_l02Put oa oc o_ (t.getD (i_ - s.length) c0).1 (by omega)) (hpre := fun w hw => hw.see (i := 0) rfl) ?_
   rintro _ _ (⟨rfl, hsame, rfl⟩ | ⟨a_10, c_11, rfl, rfl⟩)
   · have hal11 := addSpan_len o_ (t.getD (i_ - s.length) c0).1
     refine go ?_
     exact jP [0] ⟨i_ + 1, oa, oc, o_, by omega, (by rw [← diff_step (by omega) hkey ho]; unfold diffF; rw [if_neg h_9]; exact hsame.symm), (by omega), EL.go, rfl, rfl⟩
   have hal11 := addSpan_len o_ (t.getD (i_ - s.length) c0).1
   refine go ?_
   exact jP [0] ⟨i_ + 1, a_10, c_11, (addSpan o_ (t.getD (i_ - s.length) c0).1), by omega, (by rw [← diff_step (by omega) hkey ho]; unfold diffF; rw [if_neg h_9]), (by have h_ := addSpan_len o_ (t.getD (i_ - s.length) c0).1; omega), EL.go, rfl, rfl⟩
 refine go ?_
 refine jE (.inl rfl) rfl (jC (v := .slice oa o_.length oc) rfl) (List.Sublist.refl _) ?_
 have he : o_ = diffK s t := by rw [ho, List.take_of_length_le (by rw [keysAB_len]; omega)]; rfl
 exact ⟨oa, oc, by rw [he], by rw [he] <;> rfl⟩

theorem Y_covers (la : Option Addr) (lc : Nat) (l : List Str) (hzl : okS l) (hnl : l.length ≤ 1000000000) (ka : Option Addr) (kc : Nat) (k : List Str) (hzk : okS k) (hnk : k.length ≤ 1000000000) :
   Ct Tryz.prog 150 [.slice la l.length lc, .slice ka k.length kc] [] (fun w => Sees w (.slice la l.length lc) 1 l.length (l.map str) ∧ Sees w (.slice ka k.length kc) 1 k.length (k.map str)) (fun v A' => v = .bool (coversB l k) ∧ A' = []) := by
 refine Ct.intro Tryz.func150 rfl Tryz.ntmps150 (lb rfl) fun w0 hpre => ?_
 have hs_la : Sees w0 _ _ _ _ := hpre.1
 have hs_ka : Sees w0 _ _ _ _ := hpre.2
 refine go ?_
 refine jL (fun k_ e_ L_ => ∃ j : Nat, (j ≤ k.length) ∧ (∀ i, i < j → (l.any fun q => spanHas q (k.getD i [])) = true) ∧ EL e_ [(0, .slice la l.length lc), (1, .slice ka k.length kc), (5, nv j)] ∧ L_ = [] ∧ k_ = k.length - j) _ ⟨0, by omega, (fun i hi => absurd hi (Nat.not_lt_zero i)), EL.go, rfl, rfl⟩ ?_
 rintro _ _ _ ⟨j, hj, hN, ⟨_, rfl⟩, rfl, rfl⟩
 refine go ?_
 by_cases h_1 : ((j : Nat) : Int) < ((k.length : Nat) : Int)
 · have hlt : j < k.length := by omega
   refine go ?_
   refine jL (fun k_ e_ L_ => ∃ k2 : Nat, ∃ b_ : Bool, (k2 ≤ l.length) ∧ (b_ = ((l.take k2).any fun q => spanHas q (k.getD j []))) ∧ EL e_ [(0, .slice la l.length lc), (1, .slice ka k.length kc), (5, nv j), (6, .bool b_), (7, nv k2)] ∧ L_ = [] ∧ k_ = l.length - k2) _ ⟨0, false, by omega, rfl, EL.go, rfl, rfl⟩ ?_
   rintro _ _ _ ⟨k2, b_, hk2, hb, ⟨_, rfl⟩, rfl, rfl⟩
   refine go ?_
   by_cases h_2 : ((k2 : Nat) : Int) < ((l.length : Nat) : Int)
   · have hlt2 : k2 < l.length := by omega
     refine go ?_
     refine jH [] 12 ?_
     refine go ?_
     rcases Bool.eq_false_or_eq_true (b_) with h_3 | h_3
     · refine go ?_
       refine jV (l.length - (k2 + 1)) (by omega) ⟨k2 + 1, true, by omega, (by rw [any_step hlt2, ← hb]; simp_all), EL.go, rfl, rfl⟩
     refine go ?_
     obtain ⟨hr_4, hr_4b, -⟩ := sees_some hs_la (by omega)
     refine go ?_
     refine kG 5 rfl (by kernel_rfl) (NP.bl (NP.th (NP.th (NP.bl (NP.th (NP.bl (NP.th (NP.th (NP.bl (NP.th NP.body)))))))))) (by kernel_rfl) (by kernel_rfl) (by kernel_rfl) rfl rfl rfl (cB h_3) (jY (v := str (l.getD k2 [])) hs_la nM rfl kJ (atS (by omega))) ?_
     refine go ?_
     obtain ⟨hr_5, hr_5b, -⟩ := sees_some hs_ka (by omega)
     refine go ?_
     refine kG 9 rfl (by kernel_rfl) (NP.bl (NP.th (NP.th (NP.bl (NP.th (NP.bl (NP.th (NP.th (NP.bl (NP.th NP.body)))))))))) (by kernel_rfl) (by kernel_rfl) (by kernel_rfl) rfl rfl rfl (cB h_3) (jY (v := str (k.getD j [])) hs_ka nM rfl kJ (atS (by omega))) ?_
     refine jB (i := 10) ?_
     refine jn rfl rfl rfl rfl (cB h_3) (jO [] Tryz.call265 rfl (Y_sSpanHas (l.getD k2 []) (k.getD j []) (hzl.2 k2 hlt2) (hzk.2 j hlt)) rfl (fun _ _ => trivial)) ?_
     rintro _ _ ⟨_, ⟨_, rfl, rfl, rfl⟩, rfl⟩
     refine ⟨all_go, ?_⟩
     refine go ?_
     refine jV (l.length - (k2 + 1)) (by omega) ⟨k2 + 1, (spanHas (l.getD k2 []) (k.getD j [])), by omega, (by rw [any_step hlt2, ← hb]; simp_all), EL.go, rfl, rfl⟩
   rw [List.take_of_length_le (by omega)] at hb
   refine go ?_
   rcases Bool.eq_false_or_eq_true (b_) with h_6 | h_6
   · refine go ?_
     refine jV (k.length - (j + 1)) (by omega) ⟨j + 1, by omega, (fun i hi => if h : i = j then h ▸ (by rw [← hb]; simp_all) else hN i (by omega)), EL.go, rfl, rfl⟩
   refine go ?_
   refine jE (.inl rfl) rfl (jC (v := .bool false) rfl) (List.nil_sublist _) ?_
   exact ⟨cB (coversB_false hlt (by rw [← hb]; simp_all)).symm, rfl⟩
 refine go ?_
 refine jE (.inl rfl) rfl (jC (v := .bool true) rfl) (List.nil_sublist _) ?_
 exact ⟨cB (coversB_true (by omega) hN).symm, rfl⟩

set_option maxRecDepth 4000 in
theorem Y_agreeOn (sa : Option Addr) (sc : Nat) (s : List Cell) (hns : s.length ≤ 400000000) (hks : ∀ c ∈ s, c.1.length ≤ 3000000) (ta : Option Addr) (tc : Nat) (t : List Cell) (hnt : t.length ≤ 400000000) (hkt : ∀ c ∈ t, c.1.length ≤ 3000000) (la : Option Addr) (lc : Nat) (l : List Str) (hzl : okS l) (hnl : l.length ≤ 1000000000) :
   Ct Tryz.prog 65 [.slice sa s.length sc, .slice ta t.length tc, .slice la l.length lc] [] (fun w => Sees w (.slice sa s.length sc) 2 s.length (s.flatMap encC) ∧ Sees w (.slice ta t.length tc) 2 t.length (t.flatMap encC) ∧ Sees w (.slice la l.length lc) 1 l.length (l.map str)) (fun v A' => v = .bool (agreeB s t l) ∧ A' = []) := by
 refine Ct.intro Tryz.func65 rfl Tryz.ntmps65 (lb rfl) fun w0 hpre => ?_
 have hs_sa : Sees w0 _ _ _ _ := hpre.1
 have hs_ta : Sees w0 _ _ _ _ := hpre.2.1
 have hs_la : Sees w0 _ _ _ _ := hpre.2.2
 refine go ?_
 refine jA [] (Y_diff sa sc s (by omega) hks ta tc t (by omega) hkt) (hpre := fun w hw => ⟨hw.seeOut_ hs_sa nM, hw.seeOut_ hs_ta nM⟩) ?_
 rintro _ _ ⟨a_1, c_2, rfl, rfl⟩
 have hdl_3 := diffK_len s t
 refine go ?_
 have hdz := (diffK_ok hdl_3 hks hkt)
 refine jL (fun k_ e_ L_ => ∃ j : Nat, (j ≤ (diffK s t).length) ∧ (∀ i, i < j → coversB l [(diffK s t).getD i []] = false) ∧ EL e_ [(2, .slice la l.length lc), (7, .slice a_1 (diffK s t).length c_2), (8, nv j)] ∧ L_ = [rS a_1 c_2 (diffK s t)] ∧ k_ = (diffK s t).length - j) _ ⟨0, by omega, (fun i hi => absurd hi (Nat.not_lt_zero i)), EL.go, rfl, rfl⟩ ?_
 rintro _ _ _ ⟨j, hj, hN, ⟨_, rfl⟩, rfl, rfl⟩
 refine go ?_
 by_cases h_4 : ((j : Nat) : Int) < (((diffK s t).length : Nat) : Int)
 · have hlt : j < (diffK s t).length := by omega
   have hkl := hdz.2 j hlt
   refine go ?_
   refine jo fun hst => ?_
   obtain ⟨hr_5, hr_5b, -⟩ := row_some 0 rfl (by omega) hst
   refine go ?_
   refine jU (jr 0 (v := str ((diffK s t).getD j [])) rfl rfl kJ (atS (by omega))) ?_
   refine jF rfl (jR (ps := [(0, str ((diffK s t).getD j []))]) (cur := #[str ((diffK s t).getD j [])]) kI kM kV rfl (by kernel_rfl) (by decide) (by decide)) ?_
   rintro _ _ ⟨a_6, rfl, rfl⟩
   refine jN [] (Y_covers la lc l hzl (by first | omega | decide | (simp only [List.length_cons, List.length_nil]; omega)) a_6 1 ([(diffK s t).getD j []] : List Str) (okS_one (by first | assumption | omega)) (by first | omega | decide | (simp only [List.length_cons, List.length_nil]; omega))) (hpre := fun w hw => ⟨hw.seeOut_ hs_la nM, hw.see (i := 0) rfl⟩) ?_
   refine go ?_
   rcases Bool.eq_false_or_eq_true (coversB l ([(diffK s t).getD j []] : List Str)) with h_7 | h_7
   · refine go ?_
     refine jE (.inl rfl) rfl (jC (v := .bool false) rfl) (List.nil_sublist _) ?_
     exact ⟨cB (agreeB_false hlt h_7).symm, rfl⟩
   refine go ?_
   exact jP [1] ⟨j + 1, by omega, (fun i hi => if h : i = j then h ▸ h_7 else hN i (by omega)), EL.go, rfl, rfl⟩
 refine go ?_
 refine jE (.inl rfl) rfl (jC (v := .bool true) rfl) (List.nil_sublist _) ?_
 exact ⟨cB (agreeB_true (by omega) hN).symm, rfl⟩

set_option maxRecDepth 4000 in
theorem Y_onlyLaid (sa : Option Addr) (sc : Nat) (s : List Cell) (hns : s.length ≤ 400000000) (hks : ∀ c ∈ s, c.1.length ≤ 3000000) (ta : Option Addr) (tc : Nat) (t : List Cell) (hnt : t.length ≤ 400000000) (hkt : ∀ c ∈ t, c.1.length ≤ 3000000) (ra : Option Addr) (rc : Nat) (r' : List Str) (wa : Option Addr) (wc : Nat) (w' : List Str) (hzw : okS w') (hnw : w'.length ≤ 1000000000) :
   Ct Tryz.prog 63 [.slice sa s.length sc, .slice ta t.length tc, .agg #[.slice ra r'.length rc, .slice wa w'.length wc]] [] (fun w => Sees w (.slice sa s.length sc) 2 s.length (s.flatMap encC) ∧ Sees w (.slice ta t.length tc) 2 t.length (t.flatMap encC) ∧ Sees w (.slice ra r'.length rc) 1 r'.length (r'.map str) ∧ Sees w (.slice wa w'.length wc) 1 w'.length (w'.map str)) (fun v A' => v = .bool (coversB w' (diffK s t)) ∧ A' = []) := by
 refine Ct.intro Tryz.func63 rfl Tryz.ntmps63 (lb rfl) fun w0 hpre => ?_
 have hs_sa : Sees w0 _ _ _ _ := hpre.1
 have hs_ta : Sees w0 _ _ _ _ := hpre.2.1
 have hs_ra : Sees w0 _ _ _ _ := hpre.2.2.1
 have hs_wa : Sees w0 _ _ _ _ := hpre.2.2.2
 refine go ?_
 refine jM [.slice ra r'.length rc, .slice wa w'.length wc] fun b_1 => ?_
 refine go ?_
 refine jH [0] 5 ?_
 refine go ?_
 refine jB (i := 4) ?_
 refine ja rfl rfl (jO [] Tryz.call151 rfl (Y_diff sa sc s (by omega) hks ta tc t (by omega) hkt) rfl (fun w hw => ⟨hw.seeOut_ hs_sa nM, hw.seeOut_ hs_ta nM⟩)) ?_
 rintro _ _ ⟨_, ⟨a_5, c_6, rfl, rfl⟩, rfl⟩
 have hdl_7 := diffK_len s t
 refine ⟨all_go, ?_⟩
 refine jB (i := 5) ?_
 refine kE [] (Y_covers wa wc w' hzw (by first | omega | decide | (simp only [List.length_cons, List.length_nil]; omega)) a_5 c_6 (diffK s t) (diffK_ok hdl_7 hks hkt) (by first | omega | decide | (simp only [List.length_cons, List.length_nil]; omega))) (hpre := fun w hw => ⟨hw.seeOut_ hs_wa nM, hw.see (i := 0) rfl⟩) ?_
 rintro _ _ ⟨rfl, rfl⟩
 refine go ?_
 exact jJ [] ⟨rfl, rfl⟩

theorem D_dRestOn (pa : Option Addr) (pc : Nat) (p : Str) (hp : p.length ≤ 1048577)  :
   Ct Tryz.prog 62 [.slice pa p.length pc] [] (fun w => Sees w (.slice pa p.length pc) 1 p.length (p.map encB)) (fun v A' => ∃ r0a r0c r0 r1a r1c r1 r2a r2c r2, (okC' 10935 1048576 r0 ∧ stOk r0) ∧ (okC' 10938 1048576 r1 ∧ stOk r1) ∧ (okSteps r2 ∧ r2.length ≤ 6) ∧ v = .tuple #[.slice r0a r0.length r0c, .slice r1a r1.length r1c, .slice r2a r2.length r2c] ∧ A' = rC r0a r0c r0 :: rC r1a r1c r1 :: [Res.row (.slice r2a r2.length r2c) 45 7 r2.length (r2.flatMap encP)]) := by
 refine Ct.intro Tryz.func62 rfl Tryz.ntmps62 (lb rfl) fun w0 hpre => ?_
 have hs_pa : Sees w0 _ _ _ _ := hpre
 refine go ?_
 refine jA [] (D_new pa pc p (by omega)) (hpre := fun w hw => hw.seeOut_ hs_pa nM) ?_
 rintro _ _ ⟨c_1, qs_2, -, rfl, rfl⟩
 refine go ?_
 refine jA [0] (D_store6 c_1 pa pc p 0 qs_2 (by omega) (by omega) 6 (by omega) (by decide)) (hpre := fun w hw => ⟨hw.seeOut_ hs_pa nM, hw.apart hs_pa nM (by simp)⟩) ?_
 rintro _ _ ⟨qp_4, qs_5, l_7a, l_7c, l_7, fq_6, f_8, rfl, rfl⟩
 have hO1_l_7 := f_8.1.1
 refine go ?_
 refine jA [0] (D_near16 c_1 pa pc p qp_4 qs_5 l_7a l_7c l_7 (by omega) (by omega) (by omega) f_8.1 f_8.2) (hpre := fun w hw => ⟨⟨hw.seeOut_ hs_pa nM, hw.apart hs_pa nM (by simp)⟩, ⟨hw.see (i := 1) rfl, hw.apartO 1 0 rfl rfl rfl⟩⟩) ?_
 rintro _ _ ⟨qp_10, qs_11, l_13a, l_13c, l_13, fq_12, f_14, rfl, rfl⟩
 have hO1_l_13 := f_14.1.1
 refine go ?_
 refine jA [0] (D_steps15 c_1 pa pc p qp_10 qs_11 (by omega) (by omega) 4 (by omega) (by decide)) (hpre := fun w hw => ⟨hw.seeOut_ hs_pa nM, hw.apart hs_pa nM (by simp)⟩) ?_
 rintro _ _ ⟨qp_16, qs_17, l_19a, l_19c, l_19, fq_18, f_20, rfl, rfl⟩
 refine go ?_
 exact jt [3, 2, 1] ⟨l_7a, l_7c, l_7, l_13a, l_13c, l_13, l_19a, l_19c, l_19, ⟨f_8.1, f_8.2⟩, ⟨f_14.1, f_14.2⟩, f_20, rfl, rfl⟩
end Go.Proofs.YthlfmbbaomdciaaGreatDoor
