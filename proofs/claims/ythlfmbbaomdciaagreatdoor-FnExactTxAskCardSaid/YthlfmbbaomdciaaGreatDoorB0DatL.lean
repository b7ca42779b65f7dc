/-
Texts of the walk, joined: what each one proves stands at its theorems.
-/
import Derived.Test.YthlfmbbaomdciaaGreatDoorB0DatF
set_option linter.unusedSimpArgs false
set_option linter.unusedVariables false
set_option linter.unnecessarySimpa false
namespace Go.Proofs.YthlfmbbaomdciaaGreatDoor
open Go Go.RowKit
/-- A call; what it is answered. -/
structure CL where
 kind : Int
 name : Str
 to_ : Str
 a : Int
 b : Int
 text : Str
structure AN where
 code : Int
 n : Int
 text : Str
structure CL.ok (c : CL) (B : Nat) : Prop where
 h1 : -9223372036854775808 ≤ c.kind ∧ c.kind ≤ 9223372036854775807
 h2 : -9223372036854775808 ≤ c.a ∧ c.a ≤ 9223372036854775807
 h3 : -9223372036854775808 ≤ c.b ∧ c.b ≤ 9223372036854775807
 h4 : c.name.length ≤ B
 h5 : c.to_.length ≤ B
 h6 : c.text.length ≤ B
def bro (x : Int) (y : Nat) : Nat := min x.toNat y
end Go.Proofs.YthlfmbbaomdciaaGreatDoor
namespace Go.Proofs.YthlfmbbaomdciaaGreatDoor
open Go Go.RowKit
def callOk (c : CL) : Bool := decide ((1 ≤ c.kind ∧ c.kind ≤ 22) ∧ (c.name.length : Int) ≤ 20 ∧ (c.to_.length : Int) ≤ 20 ∧ (c.text.length : Int) ≤ 64)
theorem callOk_range {c : CL} (h : callOk c = true) : (1 ≤ c.kind ∧ c.kind ≤ 22) ∧ (c.name.length : Int) ≤ 20 ∧ (c.to_.length : Int) ≤ 20 ∧ (c.text.length : Int) ≤ 64 := of_decide_eq_true h
def joinL : List Str → Str → Str
 | [], out => out
 | x :: l, out => joinL l (out ++ (x ++ [32]))
def joinD : List Int → Str → Str
 | [], out => out
 | x :: l, out => joinD l (out ++ (dec x ++ [32]))
theorem dropAcc_ok {n k : Nat} : ∀ (l out : List Str), okL n k out → (∀ x ∈ l, x.length ≤ 1048576) → out.length + l.length ≤ n → k = 0 → okL n k (dropAcc 2 l out)
 | [], out, h, _, _, _ => h
 | x :: l, out, h, hx, hn, hk => by
   unfold dropAcc
   refine dropAcc_ok l _ ⟨by simp only [List.length_append, List.length_cons, List.length_nil] at *; omega, fun j hj => ?_⟩ (fun y hy => hx y (List.mem_cons_of_mem _ hy)) (by simp only [List.length_append, List.length_cons, List.length_nil] at *; omega) hk
   subst hk
   refine ⟨Nat.zero_le _, ?_⟩
   by_cases hjo : j < out.length
   · rw [List.getD_eq_getElem?_getD, List.getElem?_append_left hjo, ← List.getD_eq_getElem?_getD]
     exact (h.2 j hjo).2
   · simp only [List.length_append, List.length_cons, List.length_nil] at hj
     rw [show j = out.length by omega, List.getD_eq_getElem?_getD, List.getElem?_append_right (Nat.le_refl _), Nat.sub_self]
     have := hx x (List.mem_cons_self ..)
     simp only [List.getElem?_cons_zero, Option.getD_some, List.length_drop]
     omega
theorem names_ok {S T : Nat} {m m' : MS} {l : List Str} (h : m.ok S T) (e : m.names = (m', l)) : okL S 0 l := by
 unfold MS.names at e
 rcases hu : m.under ([110, 47] : Str) with ⟨m1, k⟩
 rw [hu] at e
 simp only [Prod.mk.injEq] at e
 obtain ⟨rfl, rfl⟩ := e
 have hk : k = keysUnder m.s ([110, 47] : Str) := (congrArg Prod.snd hu).symm
 have h1 := keysUnder_ok h ([110, 47] : Str)
 rw [← hk] at h1
 refine dropAcc_ok k [] ⟨by simp, fun j hj => by simp at hj⟩ (fun x hx => ?_) (by simpa using h1.1) rfl
 obtain ⟨j, hj, rfl⟩ := List.getElem_of_mem hx
 have := (h1.2 j hj).2
 rwa [List.getD_eq_getElem?_getD, List.getElem?_eq_getElem hj] at this
theorem kidsL_ok {parent : Int} : ∀ (l : List Str) (m m' : MS) (out r : List Int), (∀ x ∈ out, 0 ≤ x ∧ x ≤ 999) → MS.kidsL parent l m out = (m', r) → ∀ x ∈ r, 0 ≤ x ∧ x ≤ 999
 | [], m, m', out, r, h, e => by
   simp only [MS.kidsL, Prod.mk.injEq] at e
   rw [← e.2]; exact h
 | k :: l, m, m', out, r, h, e => by
   unfold MS.kidsL at e
   split at e
   · rcases hn : m.num k with ⟨m1, n⟩
     rw [hn] at e
     simp only at e
     split at e
     · refine kidsL_ok l _ _ _ _ (fun x hx => ?_) e
       rcases List.mem_append.1 hx with hx | hx
       · exact h x hx
       · simp only [List.mem_cons, List.not_mem_nil, or_false] at hx
         rw [hx]; exact numOf_lo _
     · exact kidsL_ok l _ _ _ _ h e
   · exact kidsL_ok l _ _ _ _ h e
theorem kids_ok {m m' : MS} {parent : Int} {l : List Int} (e : m.kids parent = (m', l)) : ∀ x ∈ l, 0 ≤ x ∧ x ≤ 999 := by
 unfold MS.kids at e
 rcases hu : m.under ([114, 47] : Str) with ⟨m1, k⟩
 rw [hu] at e
 exact kidsL_ok k m1 m' [] l (by simp) e
namespace MS
def doFile (m : MS) (c : CL) : MS × AN :=
 match m.fileOf c.name with
 | (m, id) => if id = 0 then (m, ⟨2, 0, []⟩) else
   if c.kind = 6 then match m.readFile id c.a c.b with | (m, t) => (m, ⟨0, 0, t⟩) else
   if c.kind = 7 then match m.writeFile id c.a c.text with | (m, k) => (m, ⟨k, 0, []⟩) else
   match m.cutFile id c.a with | (m, k) => (m, ⟨k, 0, []⟩)
def doNames (m : MS) : MS × AN := match m.names with | (m, l) => (m, ⟨0, 0, joinL l []⟩)
def doProc (m : MS) (proc : Int) (c : CL) : MS × AN :=
 if c.kind = 12 then match m.spawn proc with | (m, id, k) => (if k = 0 then (m.forkPages proc id, ⟨k, id, []⟩) else (m, ⟨k, id, []⟩)) else
 if c.kind = 13 then match m.endProc proc c.a with | (m, k) => (if k = 0 then (m.dropPages proc, ⟨k, 0, []⟩) else (m, ⟨k, 0, []⟩)) else
 if c.kind = 14 then match m.reap proc c.a with | (m, n, k) => (m, ⟨k, n, []⟩) else
 match m.kids proc with | (m, l) => (m, ⟨0, 0, joinD l []⟩)
def doKind (m : MS) (proc : Int) (c : CL) : MS × AN :=
 if c.kind = 1 then match m.makeName c.name with | (m, n, k) => (m, ⟨k, n, []⟩) else
 if c.kind = 2 then match m.linkName c.name c.to_ with | (m, k) => (m, ⟨k, 0, []⟩) else
 if c.kind = 3 then match m.unlinkName c.name with | (m, k) => (m, ⟨k, 0, []⟩) else
 if c.kind = 4 then match m.renameName c.name c.to_ with | (m, k) => (m, ⟨k, 0, []⟩) else
 if c.kind = 5 then m.doNames else
 if c.kind = 6 then m.doFile c else
 if c.kind = 7 then m.doFile c else
 if c.kind = 8 then m.doFile c else
 if c.kind = 9 then match m.makePipe with | (m, n, k) => (m, ⟨k, n, []⟩) else
 if c.kind = 10 then match m.putPipe c.a c.text with | (m, k) => (m, ⟨k, 0, []⟩) else
 if c.kind = 11 then match m.takePipe c.a with | (m, t, k) => (m, ⟨k, 0, t⟩) else
 if c.kind = 16 then match m.send c.a c.b with | (m, k) => (m, ⟨k, 0, []⟩) else
 if c.kind = 17 then match m.takeSignal proc with | (m, n, k) => (m, ⟨k, n, []⟩) else
 if c.kind = 18 then match m.setTimer proc c.a with | (m, k) => (m, ⟨k, 0, []⟩) else
 if c.kind = 19 then match m.tick c.a with | (m, n, k) => (m, ⟨k, n, []⟩) else
 if c.kind = 20 then match m.storePage proc c.a c.text with | (m, k) => (m, ⟨k, 0, []⟩) else
 if c.kind = 21 then match m.loadPage proc c.a with | (m, t, k) => (m, ⟨k, 0, t⟩) else
 if c.kind = 22 then match m.putOut c.text with | (m, k) => (m, ⟨k, 0, []⟩) else
 m.doProc proc c
def doCall (m : MS) (proc : Int) (c : CL) : MS × AN :=
 match m.state proc with
 | (m, s) => if s = 1 then (if callOk c = true then m.doKind proc c else (m, ⟨4, 0, []⟩)) else (m, ⟨2, 0, []⟩)
end MS
end Go.Proofs.YthlfmbbaomdciaaGreatDoor
