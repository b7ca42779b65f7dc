/-
Texts of the walk, joined: what each one proves stands at its theorems.
-/
import Derived.Test.YthlfmbbaomdciaaGreatDoorB1DatTy
import Derived.Test.YthlfmbbaomdciaaGreatDoorB2S65TX
set_option linter.unusedSimpArgs false
set_option linter.unusedVariables false
set_option linter.unnecessarySimpa false
namespace Go.Proofs.YthlfmbbaomdciaaGreatDoor
open Go Go.RowKit
section
variable {P : Program} {ops : Array Oper} {Q : Exit → Act → World → Prop} {n : Nat} {w0 : World} {D : List Nat} {L M : List Res} {e : Env} {z fuel : Nat} {listed : Array Bool}

theorem JA.takeOff (i : Nat) {oi : Oper} {j : Nat} {b : Bool} {t : Tmp} (hi : ops[i]? = some oi) (hs : Region.noSelect ops = true) (hQ : NP Q) (hf : Region.free .any ops listed i = true) (hr : (Region.ready .any ops listed).contains i = true)
   (hg : oi.guard = some (j, !b)) (hj : (ops[j]?).bind (·.dst) = some t) (ht : Nat.blt t n = true) (hv : e t = .bool b) (h : JA P ops Q n w0 D M z fuel (listed.setIfInBounds i true) L (updO e oi.dst undef)) :
   JA P ops Q n w0 D M z (fuel + 1) listed L e := fun w hw hq => by
 have hlt : t < n := (Nat.blt_eq (x := t) (y := n)) ▸ ht
 have hyy : yielded ops (act n e).tmps j = some b := by simp [yielded, hj, act, hlt, hv]
 exact anyC.firstP hi hs hQ fuel listed (act n e) w (Region.free_spec hi hf) (by simpa using hr) (.inr ⟨by cases b <;> simp [Region.wanted, hg, hyy], rfl⟩) (by rw [act_put]; exact h w hw hq)

end
def rall (n : Nat) (p : Nat → Bool) : Bool := (List.range n).all p
theorem rall_true {n : Nat} {p : Nat → Bool} (h : ∀ i, i < n → p i = true) : rall n p = true := List.all_eq_true.2 fun i hi => h i (List.mem_range.1 hi)
theorem rall_false {n i : Nat} {p : Nat → Bool} (hi : i < n) (h : p i = false) : rall n p = false := by
 cases hq : rall n p with
 | false => rfl
 | true => rw [List.all_eq_true.1 hq i (List.mem_range.2 hi)] at h; cases h
theorem begins_eqV (s p : Str) : prefixB s p = (decide ((p.length : Int) ≤ s.length) && decide (s.take p.length = p)) := by
 unfold prefixB
 congr 1
 exact decide_eq_decide.2 (by omega)
def spanHas (a k : Str) : Bool := if (cutSuf a [42]).2 = true then prefixB k (cutSuf a [42]).1 else decide (a = k)
theorem cutSuf_open {s : Str} (h : 0 < s.length) (h2 : s.getD (s.length - 1) 0 = 42) : cutSuf s [42] = (s.take (s.length - 1), true) := by
 unfold cutSuf suffixB
 have e : s.drop (s.length - 1) = [42] := by
   rw [drop_at (getD_some (d := 0) (show s.length - 1 < s.length by omega)), h2, List.drop_of_length_le (by omega)]
 rw [if_pos (by simp only [List.length_cons, List.length_nil, e, Bool.and_eq_true, decide_eq_true_eq]; exact ⟨by omega, trivial⟩)]
 rfl
theorem cutSuf_shut {s : Str} (h : ¬ (0 < s.length ∧ s.getD (s.length - 1) 0 = 42)) : cutSuf s [42] = (s, false) := by
 unfold cutSuf suffixB
 rw [if_neg]
 simp only [List.length_cons, List.length_nil, Bool.and_eq_true, decide_eq_true_eq]
 rintro ⟨h1, h2⟩
 refine h ⟨by omega, ?_⟩
 rw [drop_at (getD_some (d := 0) (show s.length - (0 + 1) < s.length by omega))] at h2
 simp only [List.cons.injEq] at h2
 exact h2.1
theorem c42 {c : UInt8} (h : ((c.toNat : Nat) : Int) = 42) : c = 42 := by
 apply UInt8.toNat_inj.1
 show c.toNat = 42
 omega
theorem c42' {c : UInt8} (h : c = 42) : ((c.toNat : Nat) : Int) = 42 := by subst h; rfl
end Go.Proofs.YthlfmbbaomdciaaGreatDoor
set_option maxHeartbeats 4000000
set_option maxRecDepth 4000
namespace Go.Proofs.YthlfmbbaomdciaaGreatDoor
open Go Go.RowKit
attribute [local irreducible] JL JC JQ JO LO PO JA JX Ct
theorem Y_begins (s : Str) (p : Str) (hs : s.length ≤ 9223372036854775807) (hp : p.length ≤ 9223372036854775807) :
   Ct Tryz.prog 145 [str s, str p] ([]) (fun _ => True) (fun v A' => ∃ r0, prefixB s p = r0 ∧ v = .bool r0 ∧ A' = []) := by
 refine Ct.intro Tryz.func145 rfl Tryz.ntmps145 (lb rfl) fun w0 hpre => ?_
 refine go ?_
 by_cases h_1 : (p.length : Int) ≤ (s.length : Int)
 · refine go ?_
   refine jW rfl rfl rfl (cB (dT h_1)) (jm (LO.pure (PO.sliceSh (j := p.length) kO rfl rfl (by omega)))) ?_
   rintro _ _ ⟨rfl, rfl⟩
   refine go ?_
   exact jJ [] ⟨(decide ((s.take p.length) = p)), (by rw [begins_eqV]; first | (simp_all; done) | (simp_all; intros; omega)), rfl, rfl⟩
 refine go ?_
 exact jJ [] ⟨false, (by rw [begins_eqV]; first | (simp_all; done) | (simp_all; intros; omega)), rfl, rfl⟩

theorem Y_open (s : Str) (hs : s.length ≤ 9223372036854775807) :
   Ct Tryz.prog 339 [str s] ([]) (fun _ => True) (fun v A' => ∃ r0 r1, (fun s => cutSuf s [42]) s = (r0, r1) ∧ r0.length ≤ s.length ∧ v = .tuple #[str r0, .bool r1] ∧ A' = []) := by
 refine Ct.intro Tryz.func339 rfl Tryz.ntmps339 (lb rfl) fun w0 hpre => ?_
 refine go ?_
 by_cases h_1 : 0 < (s.length : Int)
 · refine go ?_
   refine jW rfl rfl rfl (cB (dT h_1)) (jm (LO.pure (jg (c := ((s.length - 1 : Nat) : Int)) rfl rfl (wr (by omega))))) ?_
   rintro _ _ ⟨rfl, rfl⟩
   refine go ?_
   have hu_2 := UInt8.toNat_lt (s.getD (s.length - 1) 0)
   refine go ?_
   by_cases h_3 : ((s.getD (s.length - 1) 0).toNat : Int) = 42
   · refine go ?_
     refine jK (jg (c := ((s.length - 1 : Nat) : Int)) rfl rfl (wr (by omega))) <| jK (PO.sliceSh (j := (s.length - 1)) kO rfl rfl (by omega)) ?_
     refine go ?_
     exact jQ [] ⟨(s.take (s.length - 1)), true, (by first | exact cutSuf_open (by omega) (c42 (by assumption)) | exact cutSuf_shut (fun h_ => by obtain ⟨h_1, h_2⟩ := h_; first | (exfalso; omega) | exact absurd (c42' h_2) (by assumption))), (by first | omega | (simp only [LE]; omega)), rfl, rfl⟩
   refine go ?_
   exact jQ [] ⟨s, false, (by first | exact cutSuf_open (by omega) (c42 (by assumption)) | exact cutSuf_shut (fun h_ => by obtain ⟨h_1, h_2⟩ := h_; first | (exfalso; omega) | exact absurd (c42' h_2) (by assumption))), (by first | omega | (simp only [LE]; omega)), rfl, rfl⟩
 refine go ?_
 exact jQ [] ⟨s, false, (by first | exact cutSuf_open (by omega) (c42 (by assumption)) | exact cutSuf_shut (fun h_ => by obtain ⟨h_1, h_2⟩ := h_; first | (exfalso; omega) | exact absurd (c42' h_2) (by assumption))), (by first | omega | (simp only [LE]; omega)), rfl, rfl⟩

theorem Y_sSpanHas (a : Str) (b : Str) (ha : a.length ≤ 9223372036854775807) (hb : b.length ≤ 9223372036854775807) :
   Ct Tryz.prog 265 [str a, str b] ([]) (fun _ => True) (fun v A' => ∃ r0, spanHas a b = r0 ∧ v = .bool r0 ∧ A' = []) := by
 refine Ct.intro Tryz.func265 rfl Tryz.ntmps265 (lb rfl) fun w0 hpre => ?_
 refine go ?_
 refine jA [] (Y_open a (by omega)) ?_
 rintro _ _ ⟨u_3, b_5, e_1, f_4, rfl, rfl⟩
 refine go ?_
 rcases Bool.eq_false_or_eq_true (b_5) with h_6 | h_6
 · refine go ?_
   refine jA [] (Y_begins b u_3 (by omega) (by omega)) ?_
   rintro _ _ ⟨b_9, e_7, rfl, rfl⟩
   refine go ?_
   exact jJ [] ⟨b_9, (by simp only [spanHas, SB, e_1, h_6, e_7]; all_goals (first | rfl | (simp_all; done) | (simp_all [spanHas]; done))), rfl, rfl⟩
 refine go ?_
 exact jJ [] ⟨(decide (a = b)), (by simp only [spanHas, SB, e_1, h_6]; all_goals (first | rfl | (simp_all; done) | (simp_all [spanHas]; done))), rfl, rfl⟩
end Go.Proofs.YthlfmbbaomdciaaGreatDoor
