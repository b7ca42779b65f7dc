/-
Texts of the walk, joined: what each one proves stands at its theorems.
-/
import Derived.Test.YthlfmbbaomdciaaGreatDoorB7DatTy
import Derived.Test.YthlfmbbaomdciaaGreatDoorB8S45KOK
set_option linter.unusedSimpArgs false
set_option linter.unusedVariables false
set_option linter.unnecessarySimpa false
namespace Go.Proofs.YthlfmbbaomdciaaGreatDoor
open Go Go.RowKit
section
variable {w0 w : World} {D : List Nat} {L F : List Res} {rs A B C : List RD} {r : RD}
theorem SeesA.app (h : SeesA w A) (h' : SeesA w B) : SeesA w (A ++ B) := fun q hq => by
 rcases List.mem_append.1 hq with hq | hq
 · exact h q hq
 · exact h' q hq
theorem SeesAE.app (h : SeesAE w A) (h' : SeesAE w B) : SeesAE w (A ++ B) := fun q hq => by
 rcases List.mem_append.1 hq with hq | hq
 · exact h q hq
 · exact h' q hq
end
section
variable {P : Program} {ops : Array Oper} {Q : Exit → Act → World → Prop} {n : Nat} {w0 : World} {D : List Nat} {L L' : List Res} {e : Env}
end
theorem meet_meets : Meet meets where
 k a := by
   unfold meets spanHas
   cases h : (cutSuf a [42]).2 <;> simp [h, pfx_self]
 u p w h := by
   unfold meets spanHas
   rw [cut_star]
   obtain ⟨q, rfl⟩ := pfx_iff.1 h
   cases hc : (cutSuf (p ++ q) [42]).2 with
   | false => simp [hc, h]
   | true =>
     simp only [hc, and_self, if_true, Bool.or_eq_true]
     rcases List.eq_nil_or_concat q with rfl | ⟨q', x, rfl⟩
     · left
       rw [List.append_nil]
       have h2 : cutSuf p [42] = ((cutSuf p [42]).1, true) := by rw [List.append_nil] at hc; exact Prod.ext rfl hc
       unfold cutSuf at h2 ⊢
       split
       · refine pfx_iff.2 ⟨p.drop (p.length - 1), ?_⟩
         simp
       · exact pfx_self p
     · right
       by_cases hx : x = 42
       · subst hx
         rw [List.concat_eq_append, ← List.append_assoc, cut_star]
         exact pfx_iff.2 ⟨q', rfl⟩
       · rw [List.concat_eq_append, ← List.append_assoc] at hc ⊢
         rw [cutSuf_shut (by simp [List.getD_eq_getElem?_getD, hx])] at hc
         cases hc
theorem meet_off {a b : List Str} : off meets a b ↔ meetAny a b = false := by
 unfold off meetAny
 rw [Bool.eq_false_iff]
 simp only [ne_eq, List.any_eq_true, not_exists, not_and, Bool.not_eq_true]
theorem agree_steps (s : List Cell) (l : List SP) : agree (stepsTr s l).w s (stepsTr s l).s := fun k hk => (get_steps l s hk).symm
theorem steps_comm {M : Str → Str → Bool} (hM : Meet M) {s : List Cell} {X Y : List SP} (hs : stOk s) (h1 : off M (stepsTr s X).r (stepsTr s Y).w) (h2 : off M (stepsTr s Y).r (stepsTr s X).w) (h3 : ∀ k ∈ (stepsTr s X).w, ¬ k ∈ (stepsTr s Y).w) :
   (stepsTr (stepsTr s X).s Y).s = (stepsTr (stepsTr s Y).s X).s := by
 have ha := hs.steps X
 have hb := hs.steps Y
 obtain ⟨_, _, a3, a4⟩ := local_steps hM Y hs ha (agree_steps s X) h2
 obtain ⟨_, _, b3, b4⟩ := local_steps hM X hs hb (agree_steps s Y) h1
 refine (ha.steps Y).ext (hb.steps X) fun k => ?_
 by_cases hk : k ∈ (stepsTr s X).w
 · have hn := h3 k hk
   rw [get_steps Y _ (by rw [a3]; exact hn), b4 k hn]
 · rw [get_steps X (stepsTr s Y).s (by rw [b3]; exact hk), a4 k hk]
/-- What is laid by one behind the other; each is right behind the other. -/
theorem two_apart {M : Str → Str → Bool} (hM : Meet M) {s : List Cell} {x y : TD} (hs : stOk s) (hx : rightA s x = true) (hy : rightA s y = true)
   (h1 : off M x.rd y.wr) (h2 : off M y.rd x.wr) (h3 : off M x.wr y.wr) :
   rightA (laidW s (viewA s x) x.wr) y = true ∧ rightA (laidW s (viewA s y) y.wr) x = true ∧
   laidW (laidW s (viewA s x) x.wr) (viewA (laidW s (viewA s x) x.wr) y) y.wr = laidW (laidW s (viewA s y) y.wr) (viewA (laidW s (viewA s y) y.wr) x) x.wr := by
 obtain ⟨x1, x2, x3⟩ := right_iff.1 hx
 obtain ⟨y1, y2, y3⟩ := right_iff.1 hy
 have o1 : off M (stepsTr s (stepsOf x)).r (stepsTr s (stepsOf y)).w := fun a ha k hk => h1 a (x2 a ha) k (y3 k hk)
 have o2 : off M (stepsTr s (stepsOf y)).r (stepsTr s (stepsOf x)).w := fun a ha k hk => h2 a (y2 a ha) k (x3 k hk)
 have o3 : ∀ k ∈ (stepsTr s (stepsOf x)).w, ¬ k ∈ (stepsTr s (stepsOf y)).w := fun k hk hk' => by
   have := h3 k (x3 k hk) k (y3 k hk')
   rw [hM.k] at this; cases this
 have ha := hs.steps (stepsOf x)
 have hb := hs.steps (stepsOf y)
 obtain ⟨a1, a2, a3, _⟩ := local_steps hM (stepsOf y) hs ha (agree_steps s (stepsOf x)) o2
 obtain ⟨b1, b2, b3, _⟩ := local_steps hM (stepsOf x) hs hb (agree_steps s (stepsOf y)) o1
 rw [viewA_tr s x, viewA_tr s y, laid_view hs x3, laid_view hs y3]
 refine ⟨right_iff.2 ⟨by rw [a1]; exact y1, by rw [a2]; exact y2, by rw [a3]; exact y3⟩, right_iff.2 ⟨by rw [b1]; exact x1, by rw [b2]; exact x2, by rw [b3]; exact x3⟩, ?_⟩
 rw [viewA_tr, viewA_tr, laid_view ha (by rw [a3]; exact y3), laid_view hb (by rw [b3]; exact x3)]
 exact steps_comm hM hs o1 o2 o3
section
variable {s : List Cell} {l l' : List SP} {r w : List Str} {M M' : List Int} {P : Int} {i j : Nat} {t z y : TD}
theorem bInv.laidC (h : bInv s l r w M P i j t) (hs : stOk s) (hi : i ≤ 3) (hv : okC' (gro 10935 t.calls.length) 1048576 (viewA s t)) : okC' 295505 1048576 (laidW s (viewA s t) t.wr) := by
 rw [h.laid hs]
 refine hv.mono (Nat.le_trans (gro_le 10935 (j := 3) (by have := h.n; omega)) (by decide))
end
theorem growW {n i : Nat} (hn : n ≤ 295505) (h : i ≤ 3) : gro n i ≤ 2800000 := Nat.le_trans (Nat.le_trans (gro_mono hn i) (gro_le 295505 h)) (by decide)
theorem growTW {n i : Nat} (hn : n ≤ 295505) (h : i ≤ 3) : groT n 0 i ≤ 20000000 := Nat.le_trans (Nat.le_trans (groT_mono hn i) (groT_le 295505 0 h)) (by decide)
theorem apart_two {x y : TX} (hx : x.t.state = 1) (hy : y.t.state = 1) : apartAll ([x, y].map TX.t) = !clashT x.t.rd x.t.wr y.t.rd y.t.wr := by
 have h0 : rall 0 (fun k => !bothLive x.t (([x, y].map TX.t).getD k x0.t)) = true := rfl
 have e : apartAll ([x, y].map TX.t) = (rall 0 (fun k => !bothLive x.t (([x, y].map TX.t).getD k x0.t)) && ((!bothLive y.t x.t && true) && true)) := rfl
 rw [e, h0]
 simp only [bothLive, hx, hy, decide_true, Bool.true_and, Bool.and_true, clashT]
 rw [meetAny_comm y.t.wr x.t.rd, meetAny_comm y.t.wr x.t.wr, meetAny_comm x.t.wr y.t.rd]
 cases meetAny x.t.rd y.t.wr <;> cases meetAny x.t.wr y.t.wr <;> cases meetAny y.t.rd x.t.wr <;> rfl
theorem two_end {s : List Cell} {l l' : List SP} {r w r' w' : List Str} {M M' : List Int} {P P' : Int} {i j i' j' : Nat} {x y : TX} (hs : stOk s) (hI : bInv s l r w M P i j x.t) (hJ : bInv s l' r' w' M' P' i' j' y.t) (h : apartAll ([x, y].map TX.t) = true) :
   rightA (laidW s (viewA s x.t) x.t.wr) y.t = true ∧ rightA (laidW s (viewA s y.t) y.t.wr) x.t = true ∧
   laidW (laidW s (viewA s x.t) x.t.wr) (viewA (laidW s (viewA s x.t) x.t.wr) y.t) y.t.wr = laidW (laidW s (viewA s y.t) y.t.wr) (viewA (laidW s (viewA s y.t) y.t.wr) x.t) x.t.wr := by
 rw [apart_two hI.s1 hJ.s1] at h
 simp only [clashT, Bool.not_eq_true', Bool.or_eq_false_iff] at h
 obtain ⟨h1, h2, h3⟩ := h
 exact two_apart meet_meets hs hI.right hJ.right (meet_off.2 (by rw [meetAny_comm]; exact h3)) (meet_off.2 (by rw [meetAny_comm]; exact h1)) (meet_off.2 h2)
end Go.Proofs.YthlfmbbaomdciaaGreatDoor
