/-
  Texts of the walk, joined: what each one proves stands at its theorems.
-/
import Derived.Test.YthdgcbdfcclgbaaGreatDoorS20FILES
import Derived.Test.YthdgcbdfcclgbaaGreatDoorS18HEX
import Derived.Test.YthdgcbdfcclgbaaGreatDoorDatD
set_option linter.unusedSimpArgs false
set_option linter.unusedVariables false
set_option linter.unnecessarySimpa false
namespace Go.Proofs.YthdgcbdfcclgbaaGreatDoor
open Go Go.RowKit

/-- A call; what it is answered. -/
structure CL where
  kind : Int
  name : Str
  to_ : Str
  a : Int
  b : Int
  text : Str
structure AN where
  code : Int
  n : Int
  text : Str
structure CL.ok (c : CL) (B : Nat) : Prop where
  h1 : -9223372036854775808 ≤ c.kind ∧ c.kind ≤ 9223372036854775807
  h2 : -9223372036854775808 ≤ c.a ∧ c.a ≤ 9223372036854775807
  h3 : -9223372036854775808 ≤ c.b ∧ c.b ≤ 9223372036854775807
  h4 : c.name.length ≤ B
  h5 : c.to_.length ≤ B
  h6 : c.text.length ≤ B
def callOk (c : CL) : Bool := decide ((1 ≤ c.kind ∧ c.kind ≤ 22) ∧ (c.name.length : Int) ≤ 20 ∧ (c.to_.length : Int) ≤ 20 ∧ (c.text.length : Int) ≤ 64)
theorem callOk_range {c : CL} (h : callOk c = true) : (1 ≤ c.kind ∧ c.kind ≤ 22) ∧ (c.name.length : Int) ≤ 20 ∧ (c.to_.length : Int) ≤ 20 ∧ (c.text.length : Int) ≤ 64 := of_decide_eq_true h
def joinL : List Str → Str → Str
  | [], out => out
  | x :: l, out => joinL l (out ++ (x ++ [32]))
def joinD : List Int → Str → Str
  | [], out => out
  | x :: l, out => joinD l (out ++ (dec x ++ [32]))
theorem dropAcc_ok {n k : Nat} : ∀ (l out : List Str), okL n k out → (∀ x ∈ l, x.length ≤ 1048576) → out.length + l.length ≤ n → k = 0 → okL n k (dropAcc 2 l out)
  | [], out, h, _, _, _ => h
  | x :: l, out, h, hx, hn, hk => by
    unfold dropAcc
    refine dropAcc_ok l _ ⟨by simp only [List.length_append, List.length_cons, List.length_nil] at *; omega, fun j hj => ?_⟩ (fun y hy => hx y (List.mem_cons_of_mem _ hy)) (by simp only [List.length_append, List.length_cons, List.length_nil] at *; omega) hk
    subst hk
    refine ⟨Nat.zero_le _, ?_⟩
    by_cases hjo : j < out.length
    · rw [List.getD_eq_getElem?_getD, List.getElem?_append_left hjo, ← List.getD_eq_getElem?_getD]
      exact (h.2 j hjo).2
    · simp only [List.length_append, List.length_cons, List.length_nil] at hj
      rw [show j = out.length by omega, List.getD_eq_getElem?_getD, List.getElem?_append_right (Nat.le_refl _), Nat.sub_self]
      have := hx x (List.mem_cons_self ..)
      simp only [List.getElem?_cons_zero, Option.getD_some, List.length_drop]
      omega
theorem names_ok {S T : Nat} {m m' : MS} {l : List Str} (h : m.ok S T) (e : m.names = (m', l)) : okL S 0 l := by
  unfold MS.names at e
  rcases hu : m.under ([110, 47] : Str) with ⟨m1, k⟩
  rw [hu] at e
  simp only [Prod.mk.injEq] at e
  obtain ⟨rfl, rfl⟩ := e
  have hk : k = keysUnder m.s ([110, 47] : Str) := (congrArg Prod.snd hu).symm
  have h1 := keysUnder_ok h ([110, 47] : Str)
  rw [← hk] at h1
  refine dropAcc_ok k [] ⟨by simp, fun j hj => by simp at hj⟩ (fun x hx => ?_) (by simpa using h1.1) rfl
  obtain ⟨j, hj, rfl⟩ := List.getElem_of_mem hx
  have := (h1.2 j hj).2
  rwa [List.getD_eq_getElem?_getD, List.getElem?_eq_getElem hj] at this
theorem kidsL_ok {parent : Int} : ∀ (l : List Str) (m m' : MS) (out r : List Int), (∀ x ∈ out, 0 ≤ x ∧ x ≤ 999) → MS.kidsL parent l m out = (m', r) → ∀ x ∈ r, 0 ≤ x ∧ x ≤ 999
  | [], m, m', out, r, h, e => by
    simp only [MS.kidsL, Prod.mk.injEq] at e
    rw [← e.2]; exact h
  | k :: l, m, m', out, r, h, e => by
    unfold MS.kidsL at e
    split at e
    · rcases hn : m.num k with ⟨m1, n⟩
      rw [hn] at e
      simp only at e
      split at e
      · refine kidsL_ok l _ _ _ _ (fun x hx => ?_) e
        rcases List.mem_append.1 hx with hx | hx
        · exact h x hx
        · simp only [List.mem_cons, List.not_mem_nil, or_false] at hx
          rw [hx]; exact numOf_lo _
      · exact kidsL_ok l _ _ _ _ h e
    · exact kidsL_ok l _ _ _ _ h e
theorem kids_ok {m m' : MS} {parent : Int} {l : List Int} (e : m.kids parent = (m', l)) : ∀ x ∈ l, 0 ≤ x ∧ x ≤ 999 := by
  unfold MS.kids at e
  rcases hu : m.under ([114, 47] : Str) with ⟨m1, k⟩
  rw [hu] at e
  exact kidsL_ok k m1 m' [] l (by simp) e
namespace MS
def doFile (m : MS) (c : CL) : MS × AN :=
  match m.fileOf c.name with
  | (m, id) => if id = 0 then (m, ⟨2, 0, []⟩) else
    if c.kind = 6 then match m.readFile id c.a c.b with | (m, t) => (m, ⟨0, 0, t⟩) else
    if c.kind = 7 then match m.writeFile id c.a c.text with | (m, k) => (m, ⟨k, 0, []⟩) else
    match m.cutFile id c.a with | (m, k) => (m, ⟨k, 0, []⟩)
def doNames (m : MS) : MS × AN := match m.names with | (m, l) => (m, ⟨0, 0, joinL l []⟩)
def doProc (m : MS) (proc : Int) (c : CL) : MS × AN :=
  if c.kind = 12 then match m.spawn proc with | (m, id, k) => (if k = 0 then (m.forkPages proc id, ⟨k, id, []⟩) else (m, ⟨k, id, []⟩)) else
  if c.kind = 13 then match m.endProc proc c.a with | (m, k) => (if k = 0 then (m.dropPages proc, ⟨k, 0, []⟩) else (m, ⟨k, 0, []⟩)) else
  if c.kind = 14 then match m.reap proc c.a with | (m, n, k) => (m, ⟨k, n, []⟩) else
  match m.kids proc with | (m, l) => (m, ⟨0, 0, joinD l []⟩)
def doKind (m : MS) (proc : Int) (c : CL) : MS × AN :=
  if c.kind = 1 then match m.makeName c.name with | (m, n, k) => (m, ⟨k, n, []⟩) else
  if c.kind = 2 then match m.linkName c.name c.to_ with | (m, k) => (m, ⟨k, 0, []⟩) else
  if c.kind = 3 then match m.unlinkName c.name with | (m, k) => (m, ⟨k, 0, []⟩) else
  if c.kind = 4 then match m.renameName c.name c.to_ with | (m, k) => (m, ⟨k, 0, []⟩) else
  if c.kind = 5 then m.doNames else
  if c.kind = 6 then m.doFile c else
  if c.kind = 7 then m.doFile c else
  if c.kind = 8 then m.doFile c else
  if c.kind = 9 then match m.makePipe with | (m, n, k) => (m, ⟨k, n, []⟩) else
  if c.kind = 10 then match m.putPipe c.a c.text with | (m, k) => (m, ⟨k, 0, []⟩) else
  if c.kind = 11 then match m.takePipe c.a with | (m, t, k) => (m, ⟨k, 0, t⟩) else
  if c.kind = 16 then match m.send c.a c.b with | (m, k) => (m, ⟨k, 0, []⟩) else
  if c.kind = 17 then match m.takeSignal proc with | (m, n, k) => (m, ⟨k, n, []⟩) else
  if c.kind = 18 then match m.setTimer proc c.a with | (m, k) => (m, ⟨k, 0, []⟩) else
  if c.kind = 19 then match m.tick c.a with | (m, n, k) => (m, ⟨k, n, []⟩) else
  if c.kind = 20 then match m.storePage proc c.a c.text with | (m, k) => (m, ⟨k, 0, []⟩) else
  if c.kind = 21 then match m.loadPage proc c.a with | (m, t, k) => (m, ⟨k, 0, t⟩) else
  if c.kind = 22 then match m.putOut c.text with | (m, k) => (m, ⟨k, 0, []⟩) else
  m.doProc proc c
def doCall (m : MS) (proc : Int) (c : CL) : MS × AN :=
  match m.state proc with
  | (m, s) => if s = 1 then (if callOk c = true then m.doKind proc c else (m, ⟨4, 0, []⟩)) else (m, ⟨2, 0, []⟩)
end MS
def szCallF (c : CL) (l : Int) : Int :=
  if l - (c.name.length : Int) < 0 then -1 else if l - (c.name.length : Int) - (c.to_.length : Int) < 0 then -1 else
  if l - (c.name.length : Int) - (c.to_.length : Int) - (c.text.length : Int) < 0 then -1 else l - (c.name.length : Int) - (c.to_.length : Int) - (c.text.length : Int)
theorem szCall_ok {c : CL} {l : Int} (h : ¬ szCallF c l < 0) : (c.name.length : Int) ≤ l ∧ (c.to_.length : Int) ≤ l ∧ (c.text.length : Int) ≤ l := by
  unfold szCallF at h
  split at h
  · omega
  · split at h
    · omega
    · split at h <;> omega
end Go.Proofs.YthdgcbdfcclgbaaGreatDoor

set_option linter.unusedSimpArgs false
set_option linter.unusedVariables false
set_option linter.unnecessarySimpa false
namespace Go.Proofs.YthdgcbdfcclgbaaGreatDoor
open Go Go.RowKit
attribute [local irreducible] JL JC JQ JO LO PO JA JX Ct

theorem N_icallOk (c : CL) (hc : c.ok 1048576) :
    Ct Tryz.prog 55 [.agg #[.int .i64 c.kind, str c.name, str c.to_, .int .i64 c.a, .int .i64 c.b, str c.text]] ([]) (fun _ => True) (fun v A' => ∃ r0, callOk c = r0 ∧ v = .bool r0 ∧ A' = []) := by
  refine Ct.intro Tryz.func55 rfl Tryz.ntmps55 (lb rfl) fun w0 hpre => ?_
  obtain ⟨hc1, hc2, hc3, hc4, hc5, hc6⟩ := id hc
  refine jD <| jF ?_
  refine jH rfl (jv (cs := [iv c.kind, str c.name, str c.to_, iv c.a, iv c.b, str c.text]) rfl rfl) ?_
  rintro _ _ ⟨b_1, rfl, rfl⟩
  refine jA (jG (v := .bool false) rfl) <| jE <| jB <| jD <| jF <| jA (jZ fo41_0 rfl) <| jT (ji 0 (v := iv c.kind) rfl rfl kh rfl) ?_
  refine jH rfl (jI [] Tryz.call120 rfl (C_within c.kind 1 22) rfl (fun _ _ => trivial)) ?_
  rintro _ _ ⟨_, ⟨rfl, rfl⟩, rfl⟩
  refine jA (jC (v := .bool (decide (1 ≤ c.kind) && decide (c.kind ≤ 22))) rfl) ?_
  rcases Bool.eq_false_or_eq_true (decide (1 ≤ c.kind) && decide (c.kind ≤ 22)) with h_2 | h_2
  · have h_2d := h_2
    simp only [Bool.and_eq_true, Bool.and_eq_false_iff, decide_eq_true_eq, decide_eq_false_iff_not] at h_2d
    refine jb rfl rfl rfl (cB h_2) (ja (jd (jZ fo41_1 rfl))) ?_
    rintro _ _ ⟨rfl, rfl⟩
    refine jb rfl rfl rfl (cB h_2) (ja (ji 0 (v := str c.name) rfl rfl kZ rfl)) ?_
    rintro _ _ ⟨rfl, rfl⟩
    refine jb rfl rfl rfl (cB h_2) (ja (jd (kJ kY rfl))) ?_
    rintro _ _ ⟨rfl, rfl⟩
    refine jb rfl rfl rfl (cB h_2) (ja (jd (PO.leq rfl rfl))) ?_
    rintro _ _ ⟨rfl, rfl⟩
    refine jA (jx (v := .bool (decide ((c.name.length : Int) ≤ 20))) (cB h_2) rfl) <| jA (jC (v := .bool (decide ((c.name.length : Int) ≤ 20))) rfl) ?_
    by_cases h_3 : (c.name.length : Int) ≤ 20
    · refine jb rfl rfl rfl (cB (dT h_3)) (ja (jd (jZ fo41_2 rfl))) ?_
      rintro _ _ ⟨rfl, rfl⟩
      refine jb rfl rfl rfl (cB (dT h_3)) (ja (ji 0 (v := str c.to_) rfl rfl kZ rfl)) ?_
      rintro _ _ ⟨rfl, rfl⟩
      refine jb rfl rfl rfl (cB (dT h_3)) (ja (jd (kJ kY rfl))) ?_
      rintro _ _ ⟨rfl, rfl⟩
      refine jb rfl rfl rfl (cB (dT h_3)) (ja (jd (PO.leq rfl rfl))) ?_
      rintro _ _ ⟨rfl, rfl⟩
      refine jA (jx (v := .bool (decide ((c.to_.length : Int) ≤ 20))) (cB (dT h_3)) rfl) <| jA (jC (v := .bool (decide ((c.to_.length : Int) ≤ 20))) rfl) ?_
      by_cases h_4 : (c.to_.length : Int) ≤ 20
      · refine jb rfl rfl rfl (cB (dT h_4)) (ja (jd (jZ fo41_5 rfl))) ?_
        rintro _ _ ⟨rfl, rfl⟩
        refine jb rfl rfl rfl (cB (dT h_4)) (ja (ji 0 (v := str c.text) rfl rfl kZ rfl)) ?_
        rintro _ _ ⟨rfl, rfl⟩
        refine jb rfl rfl rfl (cB (dT h_4)) (ja (jd (kJ kY rfl))) ?_
        rintro _ _ ⟨rfl, rfl⟩
        refine jb rfl rfl rfl (cB (dT h_4)) (ja (jd (PO.leq rfl rfl))) ?_
        rintro _ _ ⟨rfl, rfl⟩
        refine jA (jx (v := .bool (decide ((c.text.length : Int) ≤ 64))) (cB (dT h_4)) rfl) <| jA (jG (v := .bool (decide ((c.text.length : Int) ≤ 64))) rfl) <| jE <| jB <| jM <| jV (.inl rfl) rfl (jN (v := .bool (decide ((c.text.length : Int) ≤ 64))) rfl) (List.nil_sublist _) ?_
        exact ⟨(decide ((c.text.length : Int) ≤ 64)), (decide_eq_decide.2 (by omega)), rfl, rfl⟩
      refine jY (b := false) rfl rfl rfl (cB (dF h_4)) <| jY (b := false) rfl rfl rfl (cB (dF h_4)) <| jY (b := false) rfl rfl rfl (cB (dF h_4)) <| jY (b := false) rfl rfl rfl (cB (dF h_4)) <| jA (jw (v := .bool false) (cB (dF h_4)) rfl) <| jA (jG (v := .bool false) rfl) <| jE <| jB <| jM <| jV (.inl rfl) rfl (jN (v := .bool false) rfl) (List.nil_sublist _) ?_
      exact ⟨false, (dF (by omega)), rfl, rfl⟩
    refine jY (b := false) rfl rfl rfl (cB (dF h_3)) <| jY (b := false) rfl rfl rfl (cB (dF h_3)) <| jY (b := false) rfl rfl rfl (cB (dF h_3)) <| jY (b := false) rfl rfl rfl (cB (dF h_3)) <| jA (jw (v := .bool false) (cB (dF h_3)) rfl) <| jA (jC (v := .bool false) rfl) <| jY (b := false) rfl rfl rfl (cB rfl) <| jY (b := false) rfl rfl rfl (cB rfl) <| jY (b := false) rfl rfl rfl (cB rfl) <| jY (b := false) rfl rfl rfl (cB rfl) ?_
    refine jA (jw (v := .bool false) (cB rfl) rfl) <| jA (jG (v := .bool false) rfl) <| jE <| jB <| jM <| jV (.inl rfl) rfl (jN (v := .bool false) rfl) (List.nil_sublist _) ?_
    exact ⟨false, (dF (by omega)), rfl, rfl⟩
  have h_2d := h_2
  simp only [Bool.and_eq_true, Bool.and_eq_false_iff, decide_eq_true_eq, decide_eq_false_iff_not] at h_2d
  refine jY (b := false) rfl rfl rfl (cB h_2) <| jY (b := false) rfl rfl rfl (cB h_2) <| jY (b := false) rfl rfl rfl (cB h_2) <| jY (b := false) rfl rfl rfl (cB h_2) <| jA (jw (v := .bool false) (cB h_2) rfl) <| jA (jC (v := .bool false) rfl) <| jY (b := false) rfl rfl rfl (cB rfl) <| jY (b := false) rfl rfl rfl (cB rfl) <| jY (b := false) rfl rfl rfl (cB rfl) <| jY (b := false) rfl rfl rfl (cB rfl) ?_
  refine jA (jw (v := .bool false) (cB rfl) rfl) <| jA (jC (v := .bool false) rfl) <| jY (b := false) rfl rfl rfl (cB rfl) <| jY (b := false) rfl rfl rfl (cB rfl) <| jY (b := false) rfl rfl rfl (cB rfl) <| jY (b := false) rfl rfl rfl (cB rfl) <| jA (jw (v := .bool false) (cB rfl) rfl) <| jA (jG (v := .bool false) rfl) <| jE <| jB ?_
  refine jM <| jV (.inl rfl) rfl (jN (v := .bool false) rfl) (List.nil_sublist _) ?_
  exact ⟨false, (dF (by omega)), rfl, rfl⟩

theorem N_scallOk (c : CL) (hc : c.ok 1048576) :
    Ct Tryz.prog 31 [.agg #[.int .i64 c.kind, str c.name, str c.to_, .int .i64 c.a, .int .i64 c.b, str c.text]] ([]) (fun _ => True) (fun v A' => ∃ r0, callOk c = r0 ∧ v = .bool r0 ∧ A' = []) := by
  refine Ct.intro Tryz.func31 rfl Tryz.ntmps31 (lb rfl) fun w0 hpre => ?_
  obtain ⟨hc1, hc2, hc3, hc4, hc5, hc6⟩ := id hc
  refine jD <| jF ?_
  refine jH rfl (jv (cs := [iv c.kind, str c.name, str c.to_, iv c.a, iv c.b, str c.text]) rfl rfl) ?_
  rintro _ _ ⟨b_1, rfl, rfl⟩
  refine jA (jG (v := .bool false) rfl) <| jE <| jB <| jD <| jF <| jA (jZ fo41_0 rfl) <| jT (ji 0 (v := iv c.kind) rfl rfl kh rfl) ?_
  refine jH rfl (jI [] Tryz.call86 rfl (C_l01In c.kind 1 22) rfl (fun _ _ => trivial)) ?_
  rintro _ _ ⟨_, ⟨rfl, rfl⟩, rfl⟩
  refine jA (jC (v := .bool (decide (1 ≤ c.kind) && decide (c.kind ≤ 22))) rfl) ?_
  rcases Bool.eq_false_or_eq_true (decide (1 ≤ c.kind) && decide (c.kind ≤ 22)) with h_2 | h_2
  · have h_2d := h_2
    simp only [Bool.and_eq_true, Bool.and_eq_false_iff, decide_eq_true_eq, decide_eq_false_iff_not] at h_2d
    refine jb rfl rfl rfl (cB h_2) (ja (jd (jZ fo41_1 rfl))) ?_
    rintro _ _ ⟨rfl, rfl⟩
    refine jb rfl rfl rfl (cB h_2) (ja (ji 0 (v := str c.name) rfl rfl kZ rfl)) ?_
    rintro _ _ ⟨rfl, rfl⟩
    refine jb rfl rfl rfl (cB h_2) (ja (jd (kJ kY rfl))) ?_
    rintro _ _ ⟨rfl, rfl⟩
    refine jb rfl rfl rfl (cB h_2) (ja (jd (PO.leq rfl rfl))) ?_
    rintro _ _ ⟨rfl, rfl⟩
    refine jA (jx (v := .bool (decide ((c.name.length : Int) ≤ 20))) (cB h_2) rfl) <| jA (jC (v := .bool (decide ((c.name.length : Int) ≤ 20))) rfl) ?_
    by_cases h_3 : (c.name.length : Int) ≤ 20
    · refine jb rfl rfl rfl (cB (dT h_3)) (ja (jd (jZ fo41_2 rfl))) ?_
      rintro _ _ ⟨rfl, rfl⟩
      refine jb rfl rfl rfl (cB (dT h_3)) (ja (ji 0 (v := str c.to_) rfl rfl kZ rfl)) ?_
      rintro _ _ ⟨rfl, rfl⟩
      refine jb rfl rfl rfl (cB (dT h_3)) (ja (jd (kJ kY rfl))) ?_
      rintro _ _ ⟨rfl, rfl⟩
      refine jb rfl rfl rfl (cB (dT h_3)) (ja (jd (PO.leq rfl rfl))) ?_
      rintro _ _ ⟨rfl, rfl⟩
      refine jA (jx (v := .bool (decide ((c.to_.length : Int) ≤ 20))) (cB (dT h_3)) rfl) <| jA (jC (v := .bool (decide ((c.to_.length : Int) ≤ 20))) rfl) ?_
      by_cases h_4 : (c.to_.length : Int) ≤ 20
      · refine jb rfl rfl rfl (cB (dT h_4)) (ja (jd (jZ fo41_5 rfl))) ?_
        rintro _ _ ⟨rfl, rfl⟩
        refine jb rfl rfl rfl (cB (dT h_4)) (ja (ji 0 (v := str c.text) rfl rfl kZ rfl)) ?_
        rintro _ _ ⟨rfl, rfl⟩
        refine jb rfl rfl rfl (cB (dT h_4)) (ja (jd (kJ kY rfl))) ?_
        rintro _ _ ⟨rfl, rfl⟩
        refine jb rfl rfl rfl (cB (dT h_4)) (ja (jd (PO.leq rfl rfl))) ?_
        rintro _ _ ⟨rfl, rfl⟩
        refine jA (jx (v := .bool (decide ((c.text.length : Int) ≤ 64))) (cB (dT h_4)) rfl) <| jA (jG (v := .bool (decide ((c.text.length : Int) ≤ 64))) rfl) <| jE <| jB <| jM <| jV (.inl rfl) rfl (jN (v := .bool (decide ((c.text.length : Int) ≤ 64))) rfl) (List.nil_sublist _) ?_
        exact ⟨(decide ((c.text.length : Int) ≤ 64)), (decide_eq_decide.2 (by omega)), rfl, rfl⟩
      refine jY (b := false) rfl rfl rfl (cB (dF h_4)) <| jY (b := false) rfl rfl rfl (cB (dF h_4)) <| jY (b := false) rfl rfl rfl (cB (dF h_4)) <| jY (b := false) rfl rfl rfl (cB (dF h_4)) <| jA (jw (v := .bool false) (cB (dF h_4)) rfl) <| jA (jG (v := .bool false) rfl) <| jE <| jB <| jM <| jV (.inl rfl) rfl (jN (v := .bool false) rfl) (List.nil_sublist _) ?_
      exact ⟨false, (dF (by omega)), rfl, rfl⟩
    refine jY (b := false) rfl rfl rfl (cB (dF h_3)) <| jY (b := false) rfl rfl rfl (cB (dF h_3)) <| jY (b := false) rfl rfl rfl (cB (dF h_3)) <| jY (b := false) rfl rfl rfl (cB (dF h_3)) <| jA (jw (v := .bool false) (cB (dF h_3)) rfl) <| jA (jC (v := .bool false) rfl) <| jY (b := false) rfl rfl rfl (cB rfl) <| jY (b := false) rfl rfl rfl (cB rfl) <| jY (b := false) rfl rfl rfl (cB rfl) <| jY (b := false) rfl rfl rfl (cB rfl) ?_
    refine jA (jw (v := .bool false) (cB rfl) rfl) <| jA (jG (v := .bool false) rfl) <| jE <| jB <| jM <| jV (.inl rfl) rfl (jN (v := .bool false) rfl) (List.nil_sublist _) ?_
    exact ⟨false, (dF (by omega)), rfl, rfl⟩
  have h_2d := h_2
  simp only [Bool.and_eq_true, Bool.and_eq_false_iff, decide_eq_true_eq, decide_eq_false_iff_not] at h_2d
  refine jY (b := false) rfl rfl rfl (cB h_2) <| jY (b := false) rfl rfl rfl (cB h_2) <| jY (b := false) rfl rfl rfl (cB h_2) <| jY (b := false) rfl rfl rfl (cB h_2) <| jA (jw (v := .bool false) (cB h_2) rfl) <| jA (jC (v := .bool false) rfl) <| jY (b := false) rfl rfl rfl (cB rfl) <| jY (b := false) rfl rfl rfl (cB rfl) <| jY (b := false) rfl rfl rfl (cB rfl) <| jY (b := false) rfl rfl rfl (cB rfl) ?_
  refine jA (jw (v := .bool false) (cB rfl) rfl) <| jA (jC (v := .bool false) rfl) <| jY (b := false) rfl rfl rfl (cB rfl) <| jY (b := false) rfl rfl rfl (cB rfl) <| jY (b := false) rfl rfl rfl (cB rfl) <| jY (b := false) rfl rfl rfl (cB rfl) <| jA (jw (v := .bool false) (cB rfl) rfl) <| jA (jG (v := .bool false) rfl) <| jE <| jB ?_
  refine jM <| jV (.inl rfl) rfl (jN (v := .bool false) rfl) (List.nil_sublist _) ?_
  exact ⟨false, (dF (by omega)), rfl, rfl⟩

theorem N_doFile (p : Nat) (x : MA) (m : MS) {S T : Nat} (hk : m.ok S T) (hS : S ≤ 1200000) (hT : T ≤ 1200000) (c : CL) (hc : c.ok 1048576) :
    Ct Tryz.prog 61 [.pointer (some ⟨p, 0, none⟩), .agg #[.int .i64 c.kind, str c.name, str c.to_, .int .i64 c.a, .int .i64 c.b, str c.text]] (mb p x m :: mr x m) (fun w => HexOk w) (fun v A' => ∃ x' m' r0, MS.doFile m c = (m', r0) ∧ m'.ok (S + 12) (T + 141) ∧ ((0 ≤ r0.code ∧ r0.code ≤ 9) ∧ (-1 ≤ r0.n ∧ r0.n ≤ 1000000000) ∧ r0.text.length ≤ 2000000000000) ∧ v = .agg #[.int .i64 r0.code, .int .i64 r0.n, str r0.text] ∧ A' = mb p x' m' :: mr x' m') := by
  refine Ct.introL Tryz.func61 rfl Tryz.ntmps61 (lb rfl) fun w0 hpre hlow => ?_
  obtain ⟨hc1, hc2, hc3, hc4, hc5, hc6⟩ := id hc
  refine jD <| jF ?_
  refine jH rfl (jv (cs := [iv c.kind, str c.name, str c.to_, iv c.a, iv c.b, str c.text]) rfl rfl) ?_
  rintro _ _ ⟨b_1, rfl, rfl⟩
  refine jH rfl (jh (z := .agg #[iv 0, iv 0, str []]) (cs := [iv 0, iv 0, str []]) kg rfl) ?_
  rintro _ _ ⟨b_2, rfl, rfl⟩
  refine jE <| jB <| jD <| jF <| jA (jC (v := pv p) rfl) <| jA (jZ fo41_1 rfl) <| jT (ji 1 (v := str c.name) rfl rfl kZ rfl) ?_
  refine jH rfl (jI [2, 2, 2, 2] Tryz.call122 rfl (N_fileOf p x m hk (by omega) (by omega) c.name (by omega)) rfl (fun _ _ => trivial)) ?_
  rintro _ _ ⟨_, ⟨x_5, m_6, n_7, e_3, k_4, f_8, rfl, rfl⟩, rfl⟩
  refine jA (jG (v := iv n_7) rfl) <| jE <| jB <| jD <| jD <| jF <| jA (jC (v := iv n_7) rfl) <| jA (ju rfl rfl) <| jE <| jB ?_
  by_cases h_9 : n_7 = 0
  · refine jR (cB (dT h_9)) <| jD <| jF <| jA (kP (ps := [(0, iv 2)]) (cs := [iv 2, iv 0, str []]) rfl (by kernel_rfl)) ?_
    refine jH rfl (jc 4 (vs := [iv 2, iv 0, str []]) (cs' := [iv 2, iv 0, str []]) rfl rfl rfl rfl kV rfl rfl (lb rfl) rfl) ?_
    rintro _ _ rfl
    refine jE <| jB <| jM <| jX <| jV (.inl rfl) rfl (je (jf 4 (vs := [iv 2, iv 0, str []]) rfl rfl kX kV rfl rfl) ⟨_, rfl⟩) (tS 4 _) ?_
    exact ⟨x_5, m_6, (⟨2, 0, []⟩ : AN), (by simp only [MS.doFile, e_3, h_9, SB]; (repeat (first | rw [if_pos (by omega)] | rw [if_neg (by omega)])); all_goals (first | rfl | simp only [SB, e_3, h_9])), (k_4.mono (by omega) (by omega)), (by (try dsimp only); (try simp only [List.length_nil]); omega), rfl, rfl⟩
  refine jQ (cB (dF h_9)) <| jU <| jB <| jD <| jD <| jF <| jA (jZ fo41_0 rfl) <| jT (ji 5 (v := iv c.kind) rfl rfl kh rfl) <| jE <| jB ?_
  refine jm <| jD <| jF <| jA (ju rfl rfl) <| jA (jG (v := .bool (decide (c.kind = 6))) rfl) <| jE <| jB ?_
  by_cases h_10 : c.kind = 6
  · refine jR (cB (dT h_10)) <| jD <| jF <| jA (jC (v := pv p) rfl) <| jA (jC (v := iv n_7) rfl) <| jA (jZ fo41_3 rfl) <| jT (ji 5 (v := iv c.a) rfl rfl kh rfl) <| jA (jZ fo41_4 rfl) <| jT (ji 5 (v := iv c.b) rfl rfl kh rfl) ?_
    refine jH rfl (jI [0, 0, 0, 0] Tryz.call131 rfl (N_readFile p x_5 m_6 k_4 (by omega) (by omega) n_7 c.a c.b (by omega) (by omega) (by omega)) rfl (fun w hw => hw.hex hlow hpre)) ?_
    rintro _ _ ⟨_, ⟨x_13, m_14, u_15, e_11, k_12, f_16, rfl, rfl⟩, rfl⟩
    refine jA (kP (ps := [(2, str u_15)]) (cs := [iv 0, iv 0, str u_15]) rfl (by kernel_rfl)) ?_
    refine jH rfl (jc 4 (vs := [iv 0, iv 0, str u_15]) (cs' := [iv 0, iv 0, str u_15]) rfl rfl rfl rfl kV rfl rfl (lb rfl) rfl) ?_
    rintro _ _ rfl
    refine jE <| jB <| jM <| jz <| jX <| jV (.inl rfl) rfl (je (jf 4 (vs := [iv 0, iv 0, str u_15]) rfl rfl kX kV rfl rfl) ⟨_, rfl⟩) (tS 4 _) ?_
    exact ⟨x_13, m_14, (⟨0, 0, u_15⟩ : AN), (by simp only [MS.doFile, e_3, h_9, h_10, e_11, SB]; (repeat (first | rw [if_pos (by omega)] | rw [if_neg (by omega)])); all_goals (first | rfl | simp only [SB, e_3, h_9, h_10, e_11])), (k_12.mono (by omega) (by omega)), (by (try dsimp only); (try simp only [List.length_nil]); omega), rfl, rfl⟩
  refine jQ (cB (dF h_10)) <| jD <| jF <| jA (ju rfl rfl) <| jA (jG (v := .bool (decide (c.kind = 7))) rfl) <| jE <| jB ?_
  by_cases h_17 : c.kind = 7
  · refine jR (cB (dT h_17)) <| jD <| jF <| jA (jC (v := pv p) rfl) <| jA (jC (v := iv n_7) rfl) <| jA (jZ fo41_3 rfl) <| jT (ji 5 (v := iv c.a) rfl rfl kh rfl) <| jA (jZ fo41_5 rfl) <| jT (ji 5 (v := str c.text) rfl rfl kZ rfl) ?_
    refine jH rfl (jI [0, 0, 0, 0] Tryz.call132 rfl (N_writeFile p x_5 m_6 k_4 (by omega) (by omega) n_7 c.a c.text (by omega) (by omega) (by omega)) rfl (fun w hw => hw.hex hlow hpre)) ?_
    rintro _ _ ⟨_, ⟨x_20, m_21, n_22, e_18, k_19, f_23, rfl, rfl⟩, rfl⟩
    refine jA (kP (ps := [(0, iv n_22)]) (cs := [iv n_22, iv 0, str []]) rfl (by kernel_rfl)) ?_
    refine jH rfl (jc 4 (vs := [iv n_22, iv 0, str []]) (cs' := [iv n_22, iv 0, str []]) rfl rfl rfl rfl kV rfl rfl (lb rfl) rfl) ?_
    rintro _ _ rfl
    refine jE <| jB <| jM <| jz <| jX <| jV (.inl rfl) rfl (je (jf 4 (vs := [iv n_22, iv 0, str []]) rfl rfl kX kV rfl rfl) ⟨_, rfl⟩) (tS 4 _) ?_
    exact ⟨x_20, m_21, (⟨n_22, 0, []⟩ : AN), (by simp only [MS.doFile, e_3, h_9, h_10, h_17, e_18, SB]; (repeat (first | rw [if_pos (by omega)] | rw [if_neg (by omega)])); all_goals (first | rfl | simp only [SB, e_3, h_9, h_10, h_17, e_18])), (k_19.mono (by omega) (by omega)), (by (try dsimp only); (try simp only [List.length_nil]); omega), rfl, rfl⟩
  refine jQ (cB (dF h_17)) <| jU <| jk <| jB <| jD <| jF <| jA (jC (v := pv p) rfl) <| jA (jC (v := iv n_7) rfl) <| jA (jZ fo41_3 rfl) <| jT (ji 5 (v := iv c.a) rfl rfl kh rfl) ?_
  refine jH rfl (jI [0, 0, 0, 0] Tryz.call133 rfl (N_cutFile p x_5 m_6 k_4 (by omega) (by omega) n_7 c.a (by omega) (by omega)) rfl (fun w hw => hw.hex hlow hpre)) ?_
  rintro _ _ ⟨_, ⟨x_26, m_27, n_28, e_24, k_25, f_29, rfl, rfl⟩, rfl⟩
  refine jA (kP (ps := [(0, iv n_28)]) (cs := [iv n_28, iv 0, str []]) rfl (by kernel_rfl)) ?_
  refine jH rfl (jc 4 (vs := [iv n_28, iv 0, str []]) (cs' := [iv n_28, iv 0, str []]) rfl rfl rfl rfl kV rfl rfl (lb rfl) rfl) ?_
  rintro _ _ rfl
  refine jE <| jB <| jM <| jV (.inl rfl) rfl (je (jf 4 (vs := [iv n_28, iv 0, str []]) rfl rfl kX kV rfl rfl) ⟨_, rfl⟩) (tS 4 _) ?_
  exact ⟨x_26, m_27, (⟨n_28, 0, []⟩ : AN), (by simp only [MS.doFile, e_3, h_9, h_10, h_17, e_24, SB]; (repeat (first | rw [if_pos (by omega)] | rw [if_neg (by omega)])); all_goals (first | rfl | simp only [SB, e_3, h_9, h_10, h_17, e_24])), (k_25.mono (by omega) (by omega)), (by (try dsimp only); (try simp only [List.length_nil]); omega), rfl, rfl⟩

set_option maxHeartbeats 3000000 in
theorem N_do (p : Nat) (x : MA) (m : MS) {S T : Nat} (hk : m.ok S T) (hS : S ≤ 1100000) (hT : T ≤ 1100000) (proc : Int) (c : CL) (hproc : -9223372036854775808 ≤ proc ∧ proc ≤ 9223372036854775807) (hc : c.ok 1048576) :
    Ct Tryz.prog 21 [.pointer (some ⟨p, 0, none⟩), .int .i64 proc, .agg #[.int .i64 c.kind, str c.name, str c.to_, .int .i64 c.a, .int .i64 c.b, str c.text]] (mb p x m :: mr x m) (fun w => HexOk w) (fun v A' => ∃ x' m' r0, MS.doCall m proc c = (m', r0) ∧ m'.ok (3 * S + 20) (T + 7 * S + 200) ∧ ((0 ≤ r0.code ∧ r0.code ≤ 9) ∧ (-1 ≤ r0.n ∧ r0.n ≤ 1000000000) ∧ r0.text.length ≤ 2000000000000) ∧ v = .agg #[.int .i64 r0.code, .int .i64 r0.n, str r0.text] ∧ A' = mb p x' m' :: mr x' m') := by
  refine Ct.introL Tryz.func21 rfl Tryz.ntmps21 (lb rfl) fun w0 hpre hlow => ?_
  obtain ⟨hc1, hc2, hc3, hc4, hc5, hc6⟩ := id hc
  refine jD <| jF ?_
  refine jH rfl (jv (cs := [iv c.kind, str c.name, str c.to_, iv c.a, iv c.b, str c.text]) rfl rfl) ?_
  rintro _ _ ⟨b_1, rfl, rfl⟩
  refine jH rfl (jh (z := .agg #[iv 0, iv 0, str []]) (cs := [iv 0, iv 0, str []]) kg rfl) ?_
  rintro _ _ ⟨b_2, rfl, rfl⟩
  refine jE <| jB <| jD <| jF ?_
  refine jH rfl (jh (z := .agg #[iv 0, iv 0, str []]) (cs := [iv 0, iv 0, str []]) kg rfl) ?_
  rintro _ _ ⟨b_3, rfl, rfl⟩
  refine jE <| jB <| jD <| jm <| jD <| jF <| jA (jC (v := pv p) rfl) <| jA (jC (v := iv proc) rfl) ?_
  refine jH rfl (jI [3, 3, 3, 3] Tryz.call54 rfl (N_state p x m hk (by omega) (by omega) proc (by omega)) rfl (fun _ _ => trivial)) ?_
  rintro _ _ ⟨_, ⟨x_6, m_7, n_8, e_4, k_5, f_9, rfl, rfl⟩, rfl⟩
  refine jA (kQ rfl rfl) <| jA (jG (v := .bool (!(decide (n_8 = 1)))) rfl) <| jE <| jB ?_
  by_cases h_10 : n_8 = 1
  · refine jQ (cB (cN (dT h_10))) <| jD <| jF <| jT (jf 6 (vs := [iv c.kind, str c.name, str c.to_, iv c.a, iv c.b, str c.text]) rfl rfl kx kv rfl rfl) ?_
    refine jH rfl (jI [] Tryz.call55 rfl (N_icallOk c hc) rfl (fun _ _ => trivial)) ?_
    rintro _ _ ⟨_, ⟨b_13, e_11, rfl, rfl⟩, rfl⟩
    refine jA (kA rfl) <| jA (jG (v := .bool (!b_13)) rfl) <| jE <| jB ?_
    rcases Bool.eq_false_or_eq_true (b_13) with h_14 | h_14
    · have hko := callOk_range (e_11.trans h_14)
      refine jQ (cB (cN h_14)) <| jU <| jk <| jB <| jD <| jD <| jF <| jA (jZ fo41_0 rfl) <| jT (ji 6 (v := iv c.kind) rfl rfl kh rfl) <| jE ?_
      refine jB <| jm <| jD <| jF <| jA (ju rfl rfl) <| jA (jG (v := .bool (decide (c.kind = 1))) rfl) <| jE <| jB ?_
      by_cases h_15 : c.kind = 1
      · refine jR (cB (dT h_15)) <| jF <| jA (jC (v := pv p) rfl) <| jA (jZ fo41_1 rfl) <| jT (ji 6 (v := str c.name) rfl rfl kZ rfl) ?_
        refine jH rfl (jI [0, 0, 0, 0] Tryz.call56 rfl (N_makeName p x_6 m_7 k_5 (by omega) (by omega) c.name (by omega)) rfl (fun _ _ => trivial)) ?_
        rintro _ _ ⟨_, ⟨x_18, m_19, n_20, n_22, e_16, k_17, f_21, f_23, rfl, rfl⟩, rfl⟩
        refine jA (jC (v := .tuple #[iv n_20, iv n_22]) rfl) <| jA (jS (v := iv n_20) rfl rfl) <| jA (jS (v := iv n_22) rfl rfl) <| jA (jZ fo37_1 rfl) ?_
        refine jH rfl (jc 4 (vs := [iv n_20]) (cs' := [iv 0, iv n_20, str []]) rfl rfl rfl rfl kf rfl rfl (lb rfl) rfl) ?_
        rintro _ _ rfl
        refine jA (jZ fo37_0 rfl) ?_
        refine jH rfl (jc 4 (vs := [iv n_22]) (cs' := [iv n_22, iv n_20, str []]) rfl rfl rfl rfl kf rfl rfl (lb rfl) rfl) ?_
        rintro _ _ rfl
        refine jE <| jk <| jB <| jD <| jF <| jT (jf 4 (vs := [iv n_22, iv n_20, str []]) rfl rfl kX kV rfl rfl) ?_
        refine jH rfl (jc 5 (vs := [iv n_22, iv n_20, str []]) (cs' := [iv n_22, iv n_20, str []]) rfl rfl rfl rfl kV rfl rfl (lb rfl) rfl) ?_
        rintro _ _ rfl
        refine jE <| jB <| jM <| jV (.inl rfl) rfl (je (jf 5 (vs := [iv n_22, iv n_20, str []]) rfl rfl kX kV rfl rfl) ⟨_, rfl⟩) (tS 4 _) ?_
        exact ⟨x_18, m_19, (⟨n_22, n_20, []⟩ : AN), (by simp only [MS.doCall, MS.doKind, MS.doNames, MS.doProc, e_4, h_10, e_11, h_14, h_15, e_16, SB]; (repeat (first | rw [if_pos (by omega)] | rw [if_neg (by omega)])); all_goals (first | rfl | simp only [SB, e_4, h_10, e_11, h_14, h_15, e_16])), (k_17.mono (by omega) (by omega)), (by (try dsimp only); (try simp only [List.length_nil]); omega), rfl, rfl⟩
      refine jQ (cB (dF h_15)) <| jD <| jF <| jA (ju rfl rfl) <| jA (jG (v := .bool (decide (c.kind = 2))) rfl) <| jE <| jB ?_
      by_cases h_24 : c.kind = 2
      · refine jR (cB (dT h_24)) <| jF <| jA (jC (v := pv p) rfl) <| jA (jZ fo41_1 rfl) <| jT (ji 6 (v := str c.name) rfl rfl kZ rfl) <| jA (jZ fo41_2 rfl) <| jT (ji 6 (v := str c.to_) rfl rfl kZ rfl) ?_
        refine jH rfl (jI [0, 0, 0, 0] Tryz.call57 rfl (N_linkName p x_6 m_7 k_5 (by omega) (by omega) c.name c.to_ (by omega) (by omega)) rfl (fun _ _ => trivial)) ?_
        rintro _ _ ⟨_, ⟨x_27, m_28, n_29, e_25, k_26, f_30, rfl, rfl⟩, rfl⟩
        refine jA (jZ fo37_0 rfl) ?_
        refine jH rfl (jc 4 (vs := [iv n_29]) (cs' := [iv n_29, iv 0, str []]) rfl rfl rfl rfl kf rfl rfl (lb rfl) rfl) ?_
        rintro _ _ rfl
        refine jE <| jk <| jB <| jD <| jF <| jT (jf 4 (vs := [iv n_29, iv 0, str []]) rfl rfl kX kV rfl rfl) ?_
        refine jH rfl (jc 5 (vs := [iv n_29, iv 0, str []]) (cs' := [iv n_29, iv 0, str []]) rfl rfl rfl rfl kV rfl rfl (lb rfl) rfl) ?_
        rintro _ _ rfl
        refine jE <| jB <| jM <| jV (.inl rfl) rfl (je (jf 5 (vs := [iv n_29, iv 0, str []]) rfl rfl kX kV rfl rfl) ⟨_, rfl⟩) (tS 4 _) ?_
        exact ⟨x_27, m_28, (⟨n_29, 0, []⟩ : AN), (by simp only [MS.doCall, MS.doKind, MS.doNames, MS.doProc, e_4, h_10, e_11, h_14, h_15, h_24, e_25, SB]; (repeat (first | rw [if_pos (by omega)] | rw [if_neg (by omega)])); all_goals (first | rfl | simp only [SB, e_4, h_10, e_11, h_14, h_15, h_24, e_25])), (k_26.mono (by omega) (by omega)), (by (try dsimp only); (try simp only [List.length_nil]); omega), rfl, rfl⟩
      refine jQ (cB (dF h_24)) <| jD <| jF <| jA (ju rfl rfl) <| jA (jG (v := .bool (decide (c.kind = 3))) rfl) <| jE <| jB ?_
      by_cases h_31 : c.kind = 3
      · refine jR (cB (dT h_31)) <| jF <| jA (jC (v := pv p) rfl) <| jA (jZ fo41_1 rfl) <| jT (ji 6 (v := str c.name) rfl rfl kZ rfl) ?_
        refine jH rfl (jI [0, 0, 0, 0] Tryz.call58 rfl (N_unlinkName p x_6 m_7 k_5 (by omega) (by omega) c.name (by omega)) rfl (fun _ _ => trivial)) ?_
        rintro _ _ ⟨_, ⟨x_34, m_35, n_36, e_32, k_33, f_37, rfl, rfl⟩, rfl⟩
        refine jA (jZ fo37_0 rfl) ?_
        refine jH rfl (jc 4 (vs := [iv n_36]) (cs' := [iv n_36, iv 0, str []]) rfl rfl rfl rfl kf rfl rfl (lb rfl) rfl) ?_
        rintro _ _ rfl
        refine jE <| jk <| jB <| jD <| jF <| jT (jf 4 (vs := [iv n_36, iv 0, str []]) rfl rfl kX kV rfl rfl) ?_
        refine jH rfl (jc 5 (vs := [iv n_36, iv 0, str []]) (cs' := [iv n_36, iv 0, str []]) rfl rfl rfl rfl kV rfl rfl (lb rfl) rfl) ?_
        rintro _ _ rfl
        refine jE <| jB <| jM <| jV (.inl rfl) rfl (je (jf 5 (vs := [iv n_36, iv 0, str []]) rfl rfl kX kV rfl rfl) ⟨_, rfl⟩) (tS 4 _) ?_
        exact ⟨x_34, m_35, (⟨n_36, 0, []⟩ : AN), (by simp only [MS.doCall, MS.doKind, MS.doNames, MS.doProc, e_4, h_10, e_11, h_14, h_15, h_24, h_31, e_32, SB]; (repeat (first | rw [if_pos (by omega)] | rw [if_neg (by omega)])); all_goals (first | rfl | simp only [SB, e_4, h_10, e_11, h_14, h_15, h_24, h_31, e_32])), (k_33.mono (by omega) (by omega)), (by (try dsimp only); (try simp only [List.length_nil]); omega), rfl, rfl⟩
      refine jQ (cB (dF h_31)) <| jD <| jF <| jA (ju rfl rfl) <| jA (jG (v := .bool (decide (c.kind = 4))) rfl) <| jE <| jB ?_
      by_cases h_38 : c.kind = 4
      · refine jR (cB (dT h_38)) <| jF <| jA (jC (v := pv p) rfl) <| jA (jZ fo41_1 rfl) <| jT (ji 6 (v := str c.name) rfl rfl kZ rfl) <| jA (jZ fo41_2 rfl) <| jT (ji 6 (v := str c.to_) rfl rfl kZ rfl) ?_
        refine jH rfl (jI [0, 0, 0, 0] Tryz.call59 rfl (N_renameName p x_6 m_7 k_5 (by omega) (by omega) c.name c.to_ (by omega) (by omega)) rfl (fun _ _ => trivial)) ?_
        rintro _ _ ⟨_, ⟨x_41, m_42, n_43, e_39, k_40, f_44, rfl, rfl⟩, rfl⟩
        refine jA (jZ fo37_0 rfl) ?_
        refine jH rfl (jc 4 (vs := [iv n_43]) (cs' := [iv n_43, iv 0, str []]) rfl rfl rfl rfl kf rfl rfl (lb rfl) rfl) ?_
        rintro _ _ rfl
        refine jE <| jk <| jB <| jD <| jF <| jT (jf 4 (vs := [iv n_43, iv 0, str []]) rfl rfl kX kV rfl rfl) ?_
        refine jH rfl (jc 5 (vs := [iv n_43, iv 0, str []]) (cs' := [iv n_43, iv 0, str []]) rfl rfl rfl rfl kV rfl rfl (lb rfl) rfl) ?_
        rintro _ _ rfl
        refine jE <| jB <| jM <| jV (.inl rfl) rfl (je (jf 5 (vs := [iv n_43, iv 0, str []]) rfl rfl kX kV rfl rfl) ⟨_, rfl⟩) (tS 4 _) ?_
        exact ⟨x_41, m_42, (⟨n_43, 0, []⟩ : AN), (by simp only [MS.doCall, MS.doKind, MS.doNames, MS.doProc, *, SB]; (repeat (first | rw [if_pos (by omega)] | rw [if_neg (by omega)])); all_goals (first | rfl | simp only [SB, *])), (k_40.mono (by omega) (by omega)), (by (try dsimp only); (try simp only [List.length_nil]); omega), rfl, rfl⟩
      refine jQ (cB (dF h_38)) <| jD <| jF <| jA (ju rfl rfl) <| jA (jG (v := .bool (decide (c.kind = 5))) rfl) <| jE <| jB ?_
      by_cases h_45 : c.kind = 5
      · refine jR (cB (dT h_45)) <| jD <| jF <| jA (jC (v := pv p) rfl) ?_
        refine jH rfl (jI [0, 0, 0, 0] Tryz.call60 rfl (N_names p x_6 m_7 k_5 (by omega) (by omega)) rfl (fun _ _ => trivial)) ?_
        rintro _ _ ⟨_, ⟨x_48, m_49, l_50a, l_50c, l_50, e_46, k_47, f_51, rfl, rfl⟩, rfl⟩
        refine jA (kK kW rfl) <| jA (jC (v := iv 0) rfl) <| jE <| jB <| jm ?_
        have hno := names_ok k_5 e_46
        refine kE (fun k_ e_ L_ => ∃ j_ : Nat, ∃ t_ : Str, (j_ ≤ l_50.length) ∧ (t_.length ≤ j_ * 1048577) ∧ (joinL (l_50.drop j_) t_ = joinL l_50 []) ∧ e_ 6 = .pointer (some ⟨b_2, 0, none⟩) ∧ e_ 7 = .pointer (some ⟨b_3, 0, none⟩) ∧ e_ 64 = .slice l_50a l_50.length l_50c ∧ e_ 65 = nv l_50.length ∧ e_ 66 = nv j_ ∧ L_ = [mb p x_48 m_49, rC x_48.a0 x_48.c0 m_49.s, rS x_48.a1 x_48.c1 m_49.r, rS x_48.a2 x_48.c2 m_49.w, rS l_50a l_50c l_50, bk b_3 37 [iv 0, iv 0, str t_], bk b_2 37 [iv 0, iv 0, str []], bk b_1 41 [iv c.kind, str c.name, str c.to_, iv c.a, iv c.b, str c.text]] ∧ k_ = l_50.length + 1 - j_) _ ⟨0, [], (by omega), (by simp), rfl, rfl, rfl, rfl, rfl, rfl, rfl, rfl⟩ ?_
        rintro _ e_52 _ ⟨j_, t_, hj, ht, hR, he_53, he_54, he_55, he_56, he_57, rfl, rfl⟩
        refine jD <| jF <| jA (js he_57 he_56) <| jE <| jB <| jD ?_
        by_cases h_58 : ((j_ : Nat) : Int) < ((l_50.length : Nat) : Int)
        · have hlt : j_ < l_50.length := by omega
          have hbj := hno.2 j_ hlt
          refine jR (cB (dT h_58)) <| jU <| jB <| jD <| jm <| jD <| jF ?_
          refine JL.facts fun hst => ?_
          obtain ⟨hr_59, hr_59b, -⟩ := row_some 4 rfl (by omega) hst
          refine jA (kH (i := j_) kW ka hr_59 hr_59b he_55 he_57 (by omega)) <| jT (LO.loadR1 4 (v := str (l_50.getD j_ [])) rfl rfl kZ (atS (by omega))) <| jA (jG (v := str (l_50.getD j_ [])) rfl) <| jE <| jB <| jF <| jA (jZ fo37_2 he_54) <| jT (ji 5 (v := str t_) rfl rfl kZ rfl) <| jA (jC (v := str (l_50.getD j_ [])) rfl) <| jA (kO rfl rfl (by (try simp only [List.length_append, List.length_cons, List.length_nil, List.length_drop, List.length_take]); omega)) ?_
          refine jA (kO rfl rfl (by (try simp only [List.length_append, List.length_cons, List.length_nil, List.length_drop, List.length_take]); omega)) <| jA (jZ fo37_2 he_54) ?_
          refine jH rfl (jc 5 (vs := [str (t_ ++ ((l_50.getD j_ []) ++ [32]))]) (cs' := [iv 0, iv 0, str (t_ ++ ((l_50.getD j_ []) ++ [32]))]) rfl rfl rfl rfl ka rfl rfl (lb rfl) rfl) ?_
          rintro _ _ rfl
          refine jE <| jk <| jB <| jF <| jA (jg (c := ((j_ + 1 : Nat) : Int)) he_57 rfl (wr (by omega))) <| jA (jC (v := iv ((j_ + 1 : Nat) : Int)) rfl) <| jE <| jr [0, 0, 0, 0, 0, 0, 0, 0] (A := [mb p x_48 m_49, rC x_48.a0 x_48.c0 m_49.s, rS x_48.a1 x_48.c1 m_49.r, rS x_48.a2 x_48.c2 m_49.w, rS l_50a l_50c l_50, bk b_3 37 [iv 0, iv 0, str (t_ ++ ((l_50.getD j_ []) ++ [32]))], bk b_2 37 [iv 0, iv 0, str []], bk b_1 41 [iv c.kind, str c.name, str c.to_, iv c.a, iv c.b, str c.text]]) rfl ?_
          refine jt (l_50.length + 1 - (j_ + 1)) (by omega) ⟨(j_ + 1), (t_ ++ ((l_50.getD j_ []) ++ [32])), (by omega), (by simp only [LE]; omega), (by rw [drop_at (getD_some (d := []) hlt)] at hR; simp only [joinL] at hR; first | exact hR | (simp only [List.append_assoc] at hR ⊢; exact hR)), he_53, he_54, he_55, he_56, rfl, rfl, rfl⟩
        rw [List.drop_of_length_le (by omega)] at hR
        simp only [joinL] at hR
        have hRE := hR.symm
        refine jQ (cB (dF h_58)) <| kB <| jn <| jn <| kC <| jk <| jB <| jD <| jF <| jT (jf 5 (vs := [iv 0, iv 0, str t_]) rfl he_54 kX kV rfl rfl) ?_
        refine jH rfl (jc 6 (vs := [iv 0, iv 0, str t_]) (cs' := [iv 0, iv 0, str t_]) rfl he_53 rfl rfl kV rfl rfl (lb rfl) rfl) ?_
        rintro _ _ rfl
        refine jE <| jB <| jM <| jV (.inl rfl) rfl (je (jf 6 (vs := [iv 0, iv 0, str t_]) rfl he_53 kX kV rfl rfl) ⟨_, he_53⟩) (tS 4 _) ?_
        exact ⟨x_48, m_49, (⟨0, 0, t_⟩ : AN), (by simp only [MS.doCall, MS.doKind, MS.doNames, MS.doProc, e_4, h_10, e_11, h_14, h_15, h_24, h_31, h_38, h_45, e_46, h_58, hRE, SB]; (repeat (first | rw [if_pos (by omega)] | rw [if_neg (by omega)])); all_goals (first | rfl | simp only [SB, e_4, h_10, e_11, h_14, h_15, h_24, h_31, h_38, h_45, e_46, h_58, hRE])), (k_47.mono (by omega) (by omega)), (by (try dsimp only); (try simp only [List.length_nil]); omega), rfl, rfl⟩
      refine jQ (cB (dF h_45)) <| jD <| jD <| jF <| jA (ju rfl rfl) <| jA (jG (v := .bool (decide (c.kind = 6))) rfl) <| jE <| jB ?_
      by_cases h_60 : c.kind = 6
      · refine jR (cB (dT h_60)) <| jU <| jB <| jR (cB (dT h_60)) <| jD <| jF <| jA (jC (v := pv p) rfl) <| jT (jf 6 (vs := [iv c.kind, str c.name, str c.to_, iv c.a, iv c.b, str c.text]) rfl rfl kx kv rfl rfl) ?_
        refine jH rfl (jI [0, 0, 0, 0] Tryz.call61 rfl (N_doFile p x_6 m_7 k_5 (by omega) (by omega) c hc) rfl (fun w hw => hw.hex hlow hpre)) ?_
        rintro _ _ ⟨_, ⟨x_63, m_64, A_65, e_61, k_62, f_66, rfl, rfl⟩, rfl⟩
        refine jH rfl (jc 5 (vs := [iv A_65.code, iv A_65.n, str A_65.text]) (cs' := [iv A_65.code, iv A_65.n, str A_65.text]) rfl rfl rfl rfl kV rfl rfl (lb rfl) rfl) ?_
        rintro _ _ rfl
        refine jE <| jB <| jM <| jz <| jX <| jV (.inl rfl) rfl (je (jf 5 (vs := [iv A_65.code, iv A_65.n, str A_65.text]) rfl rfl kX kV rfl rfl) ⟨_, rfl⟩) (tS 4 _) ?_
        exact ⟨x_63, m_64, A_65, (by simp only [MS.doCall, MS.doKind, MS.doNames, MS.doProc, *, SB]; (repeat (first | rw [if_pos (by omega)] | rw [if_neg (by omega)])); all_goals (first | rfl | simp only [SB, *])), (k_62.mono (by omega) (by omega)), (by (try dsimp only); (try simp only [List.length_nil]); omega), rfl, rfl⟩
      refine jQ (cB (dF h_60)) <| jD <| jF <| jA (ju rfl rfl) <| jA (jG (v := .bool (decide (c.kind = 7))) rfl) <| jE <| jB ?_
      by_cases h_67 : c.kind = 7
      · refine jR (cB (dT h_67)) <| jU <| jB <| jR (cB (dT h_67)) <| jD <| jF <| jA (jC (v := pv p) rfl) <| jT (jf 6 (vs := [iv c.kind, str c.name, str c.to_, iv c.a, iv c.b, str c.text]) rfl rfl kx kv rfl rfl) ?_
        refine jH rfl (jI [0, 0, 0, 0] Tryz.call61 rfl (N_doFile p x_6 m_7 k_5 (by omega) (by omega) c hc) rfl (fun w hw => hw.hex hlow hpre)) ?_
        rintro _ _ ⟨_, ⟨x_70, m_71, A_72, e_68, k_69, f_73, rfl, rfl⟩, rfl⟩
        refine jH rfl (jc 5 (vs := [iv A_72.code, iv A_72.n, str A_72.text]) (cs' := [iv A_72.code, iv A_72.n, str A_72.text]) rfl rfl rfl rfl kV rfl rfl (lb rfl) rfl) ?_
        rintro _ _ rfl
        refine jE <| jB <| jM <| jz <| jX <| jV (.inl rfl) rfl (je (jf 5 (vs := [iv A_72.code, iv A_72.n, str A_72.text]) rfl rfl kX kV rfl rfl) ⟨_, rfl⟩) (tS 4 _) ?_
        exact ⟨x_70, m_71, A_72, (by simp only [MS.doCall, MS.doKind, MS.doNames, MS.doProc, *, SB]; (repeat (first | rw [if_pos (by omega)] | rw [if_neg (by omega)])); all_goals (first | rfl | simp only [SB, *])), (k_69.mono (by omega) (by omega)), (by (try dsimp only); (try simp only [List.length_nil]); omega), rfl, rfl⟩
      refine jQ (cB (dF h_67)) <| jF <| jA (ju rfl rfl) <| jA (jG (v := .bool (decide (c.kind = 8))) rfl) <| jE <| jB ?_
      by_cases h_74 : c.kind = 8
      · refine jR (cB (dT h_74)) <| jD <| jF <| jA (jC (v := pv p) rfl) <| jT (jf 6 (vs := [iv c.kind, str c.name, str c.to_, iv c.a, iv c.b, str c.text]) rfl rfl kx kv rfl rfl) ?_
        refine jH rfl (jI [0, 0, 0, 0] Tryz.call61 rfl (N_doFile p x_6 m_7 k_5 (by omega) (by omega) c hc) rfl (fun w hw => hw.hex hlow hpre)) ?_
        rintro _ _ ⟨_, ⟨x_77, m_78, A_79, e_75, k_76, f_80, rfl, rfl⟩, rfl⟩
        refine jH rfl (jc 5 (vs := [iv A_79.code, iv A_79.n, str A_79.text]) (cs' := [iv A_79.code, iv A_79.n, str A_79.text]) rfl rfl rfl rfl kV rfl rfl (lb rfl) rfl) ?_
        rintro _ _ rfl
        refine jE <| jB <| jM <| jz <| jX <| jV (.inl rfl) rfl (je (jf 5 (vs := [iv A_79.code, iv A_79.n, str A_79.text]) rfl rfl kX kV rfl rfl) ⟨_, rfl⟩) (tS 4 _) ?_
        exact ⟨x_77, m_78, A_79, (by simp only [MS.doCall, MS.doKind, MS.doNames, MS.doProc, *, SB]; (repeat (first | rw [if_pos (by omega)] | rw [if_neg (by omega)])); all_goals (first | rfl | simp only [SB, *])), (k_76.mono (by omega) (by omega)), (by (try dsimp only); (try simp only [List.length_nil]); omega), rfl, rfl⟩
      refine jQ (cB (dF h_74)) <| jD <| jF <| jA (ju rfl rfl) <| jA (jG (v := .bool (decide (c.kind = 9))) rfl) <| jE <| jB ?_
      by_cases h_81 : c.kind = 9
      · refine jR (cB (dT h_81)) <| jF <| jA (jC (v := pv p) rfl) ?_
        refine jH rfl (jI [0, 0, 0, 0] Tryz.call62 rfl (N_makePipe p x_6 m_7 k_5 (by omega) (by omega)) rfl (fun _ _ => trivial)) ?_
        rintro _ _ ⟨_, ⟨x_84, m_85, n_86, n_88, e_82, k_83, f_87, f_89, rfl, rfl⟩, rfl⟩
        refine jA (jC (v := .tuple #[iv n_86, iv n_88]) rfl) <| jA (jS (v := iv n_86) rfl rfl) <| jA (jS (v := iv n_88) rfl rfl) <| jA (jZ fo37_1 rfl) ?_
        refine jH rfl (jc 4 (vs := [iv n_86]) (cs' := [iv 0, iv n_86, str []]) rfl rfl rfl rfl kf rfl rfl (lb rfl) rfl) ?_
        rintro _ _ rfl
        refine jA (jZ fo37_0 rfl) ?_
        refine jH rfl (jc 4 (vs := [iv n_88]) (cs' := [iv n_88, iv n_86, str []]) rfl rfl rfl rfl kf rfl rfl (lb rfl) rfl) ?_
        rintro _ _ rfl
        refine jE <| jk <| jB <| jD <| jF <| jT (jf 4 (vs := [iv n_88, iv n_86, str []]) rfl rfl kX kV rfl rfl) ?_
        refine jH rfl (jc 5 (vs := [iv n_88, iv n_86, str []]) (cs' := [iv n_88, iv n_86, str []]) rfl rfl rfl rfl kV rfl rfl (lb rfl) rfl) ?_
        rintro _ _ rfl
        refine jE <| jB <| jM <| jV (.inl rfl) rfl (je (jf 5 (vs := [iv n_88, iv n_86, str []]) rfl rfl kX kV rfl rfl) ⟨_, rfl⟩) (tS 4 _) ?_
        exact ⟨x_84, m_85, (⟨n_88, n_86, []⟩ : AN), (by simp only [MS.doCall, MS.doKind, MS.doNames, MS.doProc, *, SB]; (repeat (first | rw [if_pos (by omega)] | rw [if_neg (by omega)])); all_goals (first | rfl | simp only [SB, *])), (k_83.mono (by omega) (by omega)), (by (try dsimp only); (try simp only [List.length_nil]); omega), rfl, rfl⟩
      refine jQ (cB (dF h_81)) <| jD <| jF <| jA (ju rfl rfl) <| jA (jG (v := .bool (decide (c.kind = 10))) rfl) <| jE <| jB ?_
      by_cases h_90 : c.kind = 10
      · refine jR (cB (dT h_90)) <| jF <| jA (jC (v := pv p) rfl) <| jA (jZ fo41_3 rfl) <| jT (ji 6 (v := iv c.a) rfl rfl kh rfl) <| jA (jZ fo41_5 rfl) <| jT (ji 6 (v := str c.text) rfl rfl kZ rfl) ?_
        refine jH rfl (jI [0, 0, 0, 0] Tryz.call63 rfl (N_putPipe p x_6 m_7 k_5 (by omega) (by omega) c.a c.text (by omega) (by omega)) rfl (fun _ _ => trivial)) ?_
        rintro _ _ ⟨_, ⟨x_93, m_94, n_95, e_91, k_92, f_96, rfl, rfl⟩, rfl⟩
        refine jA (jZ fo37_0 rfl) ?_
        refine jH rfl (jc 4 (vs := [iv n_95]) (cs' := [iv n_95, iv 0, str []]) rfl rfl rfl rfl kf rfl rfl (lb rfl) rfl) ?_
        rintro _ _ rfl
        refine jE <| jk <| jB <| jD <| jF <| jT (jf 4 (vs := [iv n_95, iv 0, str []]) rfl rfl kX kV rfl rfl) ?_
        refine jH rfl (jc 5 (vs := [iv n_95, iv 0, str []]) (cs' := [iv n_95, iv 0, str []]) rfl rfl rfl rfl kV rfl rfl (lb rfl) rfl) ?_
        rintro _ _ rfl
        refine jE <| jB <| jM <| jV (.inl rfl) rfl (je (jf 5 (vs := [iv n_95, iv 0, str []]) rfl rfl kX kV rfl rfl) ⟨_, rfl⟩) (tS 4 _) ?_
        exact ⟨x_93, m_94, (⟨n_95, 0, []⟩ : AN), (by simp only [MS.doCall, MS.doKind, MS.doNames, MS.doProc, *, SB]; (repeat (first | rw [if_pos (by omega)] | rw [if_neg (by omega)])); all_goals (first | rfl | simp only [SB, *])), (k_92.mono (by omega) (by omega)), (by (try dsimp only); (try simp only [List.length_nil]); omega), rfl, rfl⟩
      refine jQ (cB (dF h_90)) <| jD <| jF <| jA (ju rfl rfl) <| jA (jG (v := .bool (decide (c.kind = 11))) rfl) <| jE <| jB ?_
      by_cases h_97 : c.kind = 11
      · refine jR (cB (dT h_97)) <| jF <| jA (jC (v := pv p) rfl) <| jA (jZ fo41_3 rfl) <| jT (ji 6 (v := iv c.a) rfl rfl kh rfl) ?_
        refine jH rfl (jI [0, 0, 0, 0] Tryz.call64 rfl (N_takePipe p x_6 m_7 k_5 (by omega) (by omega) c.a (by omega)) rfl (fun w hw => hw.hex hlow hpre)) ?_
        rintro _ _ ⟨_, ⟨x_100, m_101, u_102, n_104, e_98, k_99, f_103, f_105, rfl, rfl⟩, rfl⟩
        refine jA (jC (v := .tuple #[str u_102, iv n_104]) rfl) <| jA (jS (v := str u_102) rfl rfl) <| jA (jS (v := iv n_104) rfl rfl) <| jA (jZ fo37_2 rfl) ?_
        refine jH rfl (jc 4 (vs := [str u_102]) (cs' := [iv 0, iv 0, str u_102]) rfl rfl rfl rfl ka rfl rfl (lb rfl) rfl) ?_
        rintro _ _ rfl
        refine jA (jZ fo37_0 rfl) ?_
        refine jH rfl (jc 4 (vs := [iv n_104]) (cs' := [iv n_104, iv 0, str u_102]) rfl rfl rfl rfl kf rfl rfl (lb rfl) rfl) ?_
        rintro _ _ rfl
        refine jE <| jk <| jB <| jD <| jF <| jT (jf 4 (vs := [iv n_104, iv 0, str u_102]) rfl rfl kX kV rfl rfl) ?_
        refine jH rfl (jc 5 (vs := [iv n_104, iv 0, str u_102]) (cs' := [iv n_104, iv 0, str u_102]) rfl rfl rfl rfl kV rfl rfl (lb rfl) rfl) ?_
        rintro _ _ rfl
        refine jE <| jB <| jM <| jV (.inl rfl) rfl (je (jf 5 (vs := [iv n_104, iv 0, str u_102]) rfl rfl kX kV rfl rfl) ⟨_, rfl⟩) (tS 4 _) ?_
        exact ⟨x_100, m_101, (⟨n_104, 0, u_102⟩ : AN), (by simp only [MS.doCall, MS.doKind, MS.doNames, MS.doProc, *, SB]; (repeat (first | rw [if_pos (by omega)] | rw [if_neg (by omega)])); all_goals (first | rfl | simp only [SB, *])), (k_99.mono (by omega) (by omega)), (by (try dsimp only); (try simp only [List.length_nil]); omega), rfl, rfl⟩
      refine jQ (cB (dF h_97)) <| jD <| jF <| jA (ju rfl rfl) <| jA (jG (v := .bool (decide (c.kind = 12))) rfl) <| jE <| jB ?_
      by_cases h_106 : c.kind = 12
      · refine jR (cB (dT h_106)) <| jD <| jF <| jA (jC (v := pv p) rfl) <| jA (jC (v := iv proc) rfl) ?_
        refine jH rfl (jI [0, 0, 0, 0] Tryz.call65 rfl (N_spawn p x_6 m_7 k_5 (by omega) (by omega) proc (by omega)) rfl (fun _ _ => trivial)) ?_
        rintro _ _ ⟨_, ⟨x_109, m_110, n_111, n_113, e_107, k_108, f_112, f_114, rfl, rfl⟩, rfl⟩
        refine jA (jC (v := .tuple #[iv n_111, iv n_113]) rfl) <| jA (jS (v := iv n_111) rfl rfl) <| jA (jS (v := iv n_113) rfl rfl) <| jA (jZ fo37_1 rfl) ?_
        refine jH rfl (jc 4 (vs := [iv n_111]) (cs' := [iv 0, iv n_111, str []]) rfl rfl rfl rfl kf rfl rfl (lb rfl) rfl) ?_
        rintro _ _ rfl
        refine jA (jZ fo37_0 rfl) ?_
        refine jH rfl (jc 4 (vs := [iv n_113]) (cs' := [iv n_113, iv n_111, str []]) rfl rfl rfl rfl kf rfl rfl (lb rfl) rfl) ?_
        rintro _ _ rfl
        refine jE <| jB <| jD <| jF <| jA (jZ fo37_0 rfl) <| jT (ji 4 (v := iv n_113) rfl rfl kh rfl) <| jA (ju rfl rfl) <| jE <| jB ?_
        by_cases h_115 : n_113 = 0
        · refine jR (cB (dT h_115)) <| jF <| jA (jC (v := pv p) rfl) <| jA (jC (v := iv proc) rfl) <| jA (jZ fo37_1 rfl) <| jT (ji 4 (v := iv n_111) rfl rfl kh rfl) ?_
          refine jH rfl (jI [0, 0, 0, 0] Tryz.call66 rfl (N_forkPages p x_109 m_110 k_108 (by omega) (by omega) proc n_111 (by omega) (by omega)) rfl (fun _ _ => trivial)) ?_
          rintro _ _ ⟨_, ⟨x_118, m_119, e_116, k_117, rfl, rfl⟩, rfl⟩
          refine jE <| jk <| jB <| jD <| jF <| jT (jf 4 (vs := [iv n_113, iv n_111, str []]) rfl rfl kX kV rfl rfl) ?_
          refine jH rfl (jc 5 (vs := [iv n_113, iv n_111, str []]) (cs' := [iv n_113, iv n_111, str []]) rfl rfl rfl rfl kV rfl rfl (lb rfl) rfl) ?_
          rintro _ _ rfl
          refine jE <| jB <| jM <| jV (.inl rfl) rfl (je (jf 5 (vs := [iv n_113, iv n_111, str []]) rfl rfl kX kV rfl rfl) ⟨_, rfl⟩) (tS 4 _) ?_
          exact ⟨x_118, m_119, (⟨n_113, n_111, []⟩ : AN), (by simp only [MS.doCall, MS.doKind, MS.doNames, MS.doProc, *, SB]; (repeat (first | rw [if_pos (by omega)] | rw [if_neg (by omega)])); all_goals (first | rfl | simp only [SB, *])), (k_117.mono (by omega) (by omega)), (by (try dsimp only); (try simp only [List.length_nil]); omega), rfl, rfl⟩
        refine jQ (cB (dF h_115)) <| jU <| jk <| jB <| jD <| jF <| jT (jf 4 (vs := [iv n_113, iv n_111, str []]) rfl rfl kX kV rfl rfl) ?_
        refine jH rfl (jc 5 (vs := [iv n_113, iv n_111, str []]) (cs' := [iv n_113, iv n_111, str []]) rfl rfl rfl rfl kV rfl rfl (lb rfl) rfl) ?_
        rintro _ _ rfl
        refine jE <| jB <| jM <| jV (.inl rfl) rfl (je (jf 5 (vs := [iv n_113, iv n_111, str []]) rfl rfl kX kV rfl rfl) ⟨_, rfl⟩) (tS 4 _) ?_
        exact ⟨x_109, m_110, (⟨n_113, n_111, []⟩ : AN), (by simp only [MS.doCall, MS.doKind, MS.doNames, MS.doProc, *, SB]; (repeat (first | rw [if_pos (by omega)] | rw [if_neg (by omega)])); all_goals (first | rfl | simp only [SB, *])), (k_108.mono (by omega) (by omega)), (by (try dsimp only); (try simp only [List.length_nil]); omega), rfl, rfl⟩
      refine jQ (cB (dF h_106)) <| jD <| jF <| jA (ju rfl rfl) <| jA (jG (v := .bool (decide (c.kind = 13))) rfl) <| jE <| jB ?_
      by_cases h_120 : c.kind = 13
      · refine jR (cB (dT h_120)) <| jD <| jF <| jA (jC (v := pv p) rfl) <| jA (jC (v := iv proc) rfl) <| jA (jZ fo41_3 rfl) <| jT (ji 6 (v := iv c.a) rfl rfl kh rfl) ?_
        refine jH rfl (jI [0, 0, 0, 0] Tryz.call67 rfl (N_end p x_6 m_7 k_5 (by omega) (by omega) proc c.a (by omega) (by omega)) rfl (fun _ _ => trivial)) ?_
        rintro _ _ ⟨_, ⟨x_123, m_124, n_125, e_121, k_122, f_126, rfl, rfl⟩, rfl⟩
        refine jA (jZ fo37_0 rfl) ?_
        refine jH rfl (jc 4 (vs := [iv n_125]) (cs' := [iv n_125, iv 0, str []]) rfl rfl rfl rfl kf rfl rfl (lb rfl) rfl) ?_
        rintro _ _ rfl
        refine jE <| jB <| jD <| jF <| jA (jZ fo37_0 rfl) <| jT (ji 4 (v := iv n_125) rfl rfl kh rfl) <| jA (ju rfl rfl) <| jE <| jB ?_
        by_cases h_127 : n_125 = 0
        · refine jR (cB (dT h_127)) <| jF <| jA (jC (v := pv p) rfl) <| jA (jC (v := iv proc) rfl) ?_
          refine jH rfl (jI [0, 0, 0, 0] Tryz.call68 rfl (N_dropPages p x_123 m_124 k_122 (by omega) (by omega) proc (by omega)) rfl (fun _ _ => trivial)) ?_
          rintro _ _ ⟨_, ⟨x_130, m_131, e_128, k_129, rfl, rfl⟩, rfl⟩
          refine jE <| jk <| jB <| jD <| jF <| jT (jf 4 (vs := [iv n_125, iv 0, str []]) rfl rfl kX kV rfl rfl) ?_
          refine jH rfl (jc 5 (vs := [iv n_125, iv 0, str []]) (cs' := [iv n_125, iv 0, str []]) rfl rfl rfl rfl kV rfl rfl (lb rfl) rfl) ?_
          rintro _ _ rfl
          refine jE <| jB <| jM <| jV (.inl rfl) rfl (je (jf 5 (vs := [iv n_125, iv 0, str []]) rfl rfl kX kV rfl rfl) ⟨_, rfl⟩) (tS 4 _) ?_
          exact ⟨x_130, m_131, (⟨n_125, 0, []⟩ : AN), (by simp only [MS.doCall, MS.doKind, MS.doNames, MS.doProc, *, SB]; (repeat (first | rw [if_pos (by omega)] | rw [if_neg (by omega)])); all_goals (first | rfl | simp only [SB, *])), (k_129.mono (by omega) (by omega)), (by (try dsimp only); (try simp only [List.length_nil]); omega), rfl, rfl⟩
        refine jQ (cB (dF h_127)) <| jU <| jk <| jB <| jD <| jF <| jT (jf 4 (vs := [iv n_125, iv 0, str []]) rfl rfl kX kV rfl rfl) ?_
        refine jH rfl (jc 5 (vs := [iv n_125, iv 0, str []]) (cs' := [iv n_125, iv 0, str []]) rfl rfl rfl rfl kV rfl rfl (lb rfl) rfl) ?_
        rintro _ _ rfl
        refine jE <| jB <| jM <| jV (.inl rfl) rfl (je (jf 5 (vs := [iv n_125, iv 0, str []]) rfl rfl kX kV rfl rfl) ⟨_, rfl⟩) (tS 4 _) ?_
        exact ⟨x_123, m_124, (⟨n_125, 0, []⟩ : AN), (by simp only [MS.doCall, MS.doKind, MS.doNames, MS.doProc, *, SB]; (repeat (first | rw [if_pos (by omega)] | rw [if_neg (by omega)])); all_goals (first | rfl | simp only [SB, *])), (k_122.mono (by omega) (by omega)), (by (try dsimp only); (try simp only [List.length_nil]); omega), rfl, rfl⟩
      refine jQ (cB (dF h_120)) <| jD <| jF <| jA (ju rfl rfl) <| jA (jG (v := .bool (decide (c.kind = 14))) rfl) <| jE <| jB ?_
      by_cases h_132 : c.kind = 14
      · refine jR (cB (dT h_132)) <| jF <| jA (jC (v := pv p) rfl) <| jA (jC (v := iv proc) rfl) <| jA (jZ fo41_3 rfl) <| jT (ji 6 (v := iv c.a) rfl rfl kh rfl) ?_
        refine jH rfl (jI [0, 0, 0, 0] Tryz.call69 rfl (N_reap p x_6 m_7 k_5 (by omega) (by omega) proc c.a (by omega) (by omega)) rfl (fun _ _ => trivial)) ?_
        rintro _ _ ⟨_, ⟨x_135, m_136, n_137, n_139, e_133, k_134, f_138, f_140, rfl, rfl⟩, rfl⟩
        refine jA (jC (v := .tuple #[iv n_137, iv n_139]) rfl) <| jA (jS (v := iv n_137) rfl rfl) <| jA (jS (v := iv n_139) rfl rfl) <| jA (jZ fo37_1 rfl) ?_
        refine jH rfl (jc 4 (vs := [iv n_137]) (cs' := [iv 0, iv n_137, str []]) rfl rfl rfl rfl kf rfl rfl (lb rfl) rfl) ?_
        rintro _ _ rfl
        refine jA (jZ fo37_0 rfl) ?_
        refine jH rfl (jc 4 (vs := [iv n_139]) (cs' := [iv n_139, iv n_137, str []]) rfl rfl rfl rfl kf rfl rfl (lb rfl) rfl) ?_
        rintro _ _ rfl
        refine jE <| jk <| jB <| jD <| jF <| jT (jf 4 (vs := [iv n_139, iv n_137, str []]) rfl rfl kX kV rfl rfl) ?_
        refine jH rfl (jc 5 (vs := [iv n_139, iv n_137, str []]) (cs' := [iv n_139, iv n_137, str []]) rfl rfl rfl rfl kV rfl rfl (lb rfl) rfl) ?_
        rintro _ _ rfl
        refine jE <| jB <| jM <| jV (.inl rfl) rfl (je (jf 5 (vs := [iv n_139, iv n_137, str []]) rfl rfl kX kV rfl rfl) ⟨_, rfl⟩) (tS 4 _) ?_
        exact ⟨x_135, m_136, (⟨n_139, n_137, []⟩ : AN), (by simp only [MS.doCall, MS.doKind, MS.doNames, MS.doProc, *, SB]; (repeat (first | rw [if_pos (by omega)] | rw [if_neg (by omega)])); all_goals (first | rfl | simp only [SB, *])), (k_134.mono (by omega) (by omega)), (by (try dsimp only); (try simp only [List.length_nil]); omega), rfl, rfl⟩
      refine jQ (cB (dF h_132)) <| jD <| jF <| jA (ju rfl rfl) <| jA (jG (v := .bool (decide (c.kind = 15))) rfl) <| jE <| jB ?_
      by_cases h_141 : c.kind = 15
      · refine jR (cB (dT h_141)) <| jD <| jF <| jA (jC (v := pv p) rfl) <| jA (jC (v := iv proc) rfl) ?_
        refine jH rfl (jI [0, 0, 0, 0] Tryz.call70 rfl (N_kids p x_6 m_7 k_5 (by omega) (by omega) proc (by omega)) rfl (fun _ _ => trivial)) ?_
        rintro _ _ ⟨_, ⟨x_144, m_145, l_146a, l_146c, l_146, e_142, k_143, f_147, rfl, rfl⟩, rfl⟩
        refine jA (kK gB rfl) <| jA (jC (v := iv 0) rfl) <| jE <| jB <| jm ?_
        have hno := kids_ok e_142
        refine kE (fun k_ e_ L_ => ∃ j_ : Nat, ∃ t_ : Str, (j_ ≤ l_146.length) ∧ (t_.length ≤ j_ * 1048577) ∧ (joinD (l_146.drop j_) t_ = joinD l_146 []) ∧ e_ 6 = .pointer (some ⟨b_2, 0, none⟩) ∧ e_ 7 = .pointer (some ⟨b_3, 0, none⟩) ∧ e_ 161 = .slice l_146a l_146.length l_146c ∧ e_ 162 = nv l_146.length ∧ e_ 163 = nv j_ ∧ L_ = [mb p x_144 m_145, rC x_144.a0 x_144.c0 m_145.s, rS x_144.a1 x_144.c1 m_145.r, rS x_144.a2 x_144.c2 m_145.w, rI l_146a l_146c l_146, bk b_3 37 [iv 0, iv 0, str t_], bk b_2 37 [iv 0, iv 0, str []], bk b_1 41 [iv c.kind, str c.name, str c.to_, iv c.a, iv c.b, str c.text]] ∧ k_ = l_146.length + 1 - j_) _ ⟨0, [], (by omega), (by simp), rfl, rfl, rfl, rfl, rfl, rfl, rfl, rfl⟩ ?_
        rintro _ e_148 _ ⟨j_, t_, hj, ht, hR, he_149, he_150, he_151, he_152, he_153, rfl, rfl⟩
        refine jD <| jF <| jA (js he_153 he_152) <| jE <| jB <| jD ?_
        by_cases h_154 : ((j_ : Nat) : Int) < ((l_146.length : Nat) : Int)
        · have hlt : j_ < l_146.length := by omega
          have hbj := hno _ (getD_mem (d := 0) hlt)
          refine jR (cB (dT h_154)) <| jU <| jB <| jD <| jm <| jD <| jF ?_
          refine JL.facts fun hst => ?_
          obtain ⟨hr_155, hr_155b, -⟩ := row_some 4 rfl (by omega) hst
          refine jA (kH (i := j_) gB kf hr_155 hr_155b he_151 he_153 (by omega)) <| jT (LO.loadR1 4 (v := iv (l_146.getD j_ 0)) rfl rfl kh (atI (by omega))) <| jA (jG (v := iv (l_146.getD j_ 0)) rfl) <| jE <| jB <| jq [bk b_3 37 [iv 0, iv 0, str t_]] 6 mixed (by simp) <| jK 0 rfl (jZ fo37_2 he_150) <| jl 1 rfl (ji 0 (v := str t_) rfl rfl kZ rfl) <| jK 2 rfl (jC (v := iv (l_146.getD j_ 0)) rfl) <| jL (i := 3) ?_
          refine jO rfl rfl (jI [] Tryz.call71 rfl (N_dec (l_146.getD j_ 0) (by omega)) rfl (fun _ _ => trivial)) ?_
          rintro _ _ ⟨_, ⟨u_162, e_160, f_163, rfl, rfl⟩, rfl⟩
          refine ⟨(by simp), ?_⟩
          refine jK 4 rfl (kO rfl rfl (by (try simp only [List.length_append, List.length_cons, List.length_nil, List.length_drop, List.length_take]); omega)) <| jK 5 rfl (kO rfl rfl (by (try simp only [List.length_append, List.length_cons, List.length_nil, List.length_drop, List.length_take]); omega)) <| jK 6 rfl (jZ fo37_2 he_150) <| jL (i := 7) ?_
          refine jp rfl (jc 5 (vs := [str (t_ ++ (u_162 ++ [32]))]) (cs' := [iv 0, iv 0, str (t_ ++ (u_162 ++ [32]))]) rfl rfl rfl rfl ka rfl rfl (lb rfl) rfl) ?_
          rintro _ _ rfl
          refine jk <| jB <| jF <| jA (jg (c := ((j_ + 1 : Nat) : Int)) he_153 rfl (wr (by omega))) <| jA (jC (v := iv ((j_ + 1 : Nat) : Int)) rfl) <| jE <| jr [0, 0, 0, 0, 0, 0, 0, 0] (A := [mb p x_144 m_145, rC x_144.a0 x_144.c0 m_145.s, rS x_144.a1 x_144.c1 m_145.r, rS x_144.a2 x_144.c2 m_145.w, rI l_146a l_146c l_146, bk b_3 37 [iv 0, iv 0, str (t_ ++ (u_162 ++ [32]))], bk b_2 37 [iv 0, iv 0, str []], bk b_1 41 [iv c.kind, str c.name, str c.to_, iv c.a, iv c.b, str c.text]]) rfl ?_
          refine jt (l_146.length + 1 - (j_ + 1)) (by omega) ⟨(j_ + 1), (t_ ++ (u_162 ++ [32])), (by omega), (by simp only [LE]; omega), (by rw [drop_at (getD_some (d := 0) hlt)] at hR; simp only [joinD, e_160] at hR; first | exact hR | (simp only [List.append_assoc] at hR ⊢; exact hR)), he_149, he_150, he_151, he_152, rfl, rfl, rfl⟩
        rw [List.drop_of_length_le (by omega)] at hR
        simp only [joinD] at hR
        have hRE := hR.symm
        refine jQ (cB (dF h_154)) <| kB <| jn <| jn <| kC <| jk <| jB <| jD <| jF <| jT (jf 5 (vs := [iv 0, iv 0, str t_]) rfl he_150 kX kV rfl rfl) ?_
        refine jH rfl (jc 6 (vs := [iv 0, iv 0, str t_]) (cs' := [iv 0, iv 0, str t_]) rfl he_149 rfl rfl kV rfl rfl (lb rfl) rfl) ?_
        rintro _ _ rfl
        refine jE <| jB <| jM <| jV (.inl rfl) rfl (je (jf 6 (vs := [iv 0, iv 0, str t_]) rfl he_149 kX kV rfl rfl) ⟨_, he_149⟩) (tS 4 _) ?_
        exact ⟨x_144, m_145, (⟨0, 0, t_⟩ : AN), (by simp only [MS.doCall, MS.doKind, MS.doNames, MS.doProc, e_4, h_10, e_11, h_14, h_15, h_24, h_31, h_38, h_45, h_60, h_67, h_74, h_81, h_90, h_97, h_106, h_120, h_132, h_141, e_142, h_154, hRE, SB]; (repeat (first | rw [if_pos (by omega)] | rw [if_neg (by omega)])); all_goals (first | rfl | simp only [SB, e_4, h_10, e_11, h_14, h_15, h_24, h_31, h_38, h_45, h_60, h_67, h_74, h_81, h_90, h_97, h_106, h_120, h_132, h_141, e_142, h_154, hRE])), (k_143.mono (by omega) (by omega)), (by (try dsimp only); (try simp only [List.length_nil]); omega), rfl, rfl⟩
      refine jQ (cB (dF h_141)) <| jD <| jF <| jA (ju rfl rfl) <| jA (jG (v := .bool (decide (c.kind = 16))) rfl) <| jE <| jB ?_
      by_cases h_164 : c.kind = 16
      · refine jR (cB (dT h_164)) <| jF <| jA (jC (v := pv p) rfl) <| jA (jZ fo41_3 rfl) <| jT (ji 6 (v := iv c.a) rfl rfl kh rfl) <| jA (jZ fo41_4 rfl) <| jT (ji 6 (v := iv c.b) rfl rfl kh rfl) ?_
        refine jH rfl (jI [0, 0, 0, 0] Tryz.call72 rfl (N_send p x_6 m_7 k_5 (by omega) (by omega) c.a c.b (by omega) (by omega)) rfl (fun _ _ => trivial)) ?_
        rintro _ _ ⟨_, ⟨x_167, m_168, n_169, e_165, k_166, f_170, rfl, rfl⟩, rfl⟩
        refine jA (jZ fo37_0 rfl) ?_
        refine jH rfl (jc 4 (vs := [iv n_169]) (cs' := [iv n_169, iv 0, str []]) rfl rfl rfl rfl kf rfl rfl (lb rfl) rfl) ?_
        rintro _ _ rfl
        refine jE <| jk <| jB <| jD <| jF <| jT (jf 4 (vs := [iv n_169, iv 0, str []]) rfl rfl kX kV rfl rfl) ?_
        refine jH rfl (jc 5 (vs := [iv n_169, iv 0, str []]) (cs' := [iv n_169, iv 0, str []]) rfl rfl rfl rfl kV rfl rfl (lb rfl) rfl) ?_
        rintro _ _ rfl
        refine jE <| jB <| jM <| jV (.inl rfl) rfl (je (jf 5 (vs := [iv n_169, iv 0, str []]) rfl rfl kX kV rfl rfl) ⟨_, rfl⟩) (tS 4 _) ?_
        exact ⟨x_167, m_168, (⟨n_169, 0, []⟩ : AN), (by simp only [MS.doCall, MS.doKind, MS.doNames, MS.doProc, *, SB]; (repeat (first | rw [if_pos (by omega)] | rw [if_neg (by omega)])); all_goals (first | rfl | simp only [SB, *])), (k_166.mono (by omega) (by omega)), (by (try dsimp only); (try simp only [List.length_nil]); omega), rfl, rfl⟩
      refine jQ (cB (dF h_164)) <| jD <| jF <| jA (ju rfl rfl) <| jA (jG (v := .bool (decide (c.kind = 17))) rfl) <| jE <| jB ?_
      by_cases h_171 : c.kind = 17
      · refine jR (cB (dT h_171)) <| jF <| jA (jC (v := pv p) rfl) <| jA (jC (v := iv proc) rfl) ?_
        refine jH rfl (jI [0, 0, 0, 0] Tryz.call73 rfl (N_takeSignal p x_6 m_7 k_5 (by omega) (by omega) proc (by omega)) rfl (fun _ _ => trivial)) ?_
        rintro _ _ ⟨_, ⟨x_174, m_175, n_176, n_178, e_172, k_173, f_177, f_179, rfl, rfl⟩, rfl⟩
        refine jA (jC (v := .tuple #[iv n_176, iv n_178]) rfl) <| jA (jS (v := iv n_176) rfl rfl) <| jA (jS (v := iv n_178) rfl rfl) <| jA (jZ fo37_1 rfl) ?_
        refine jH rfl (jc 4 (vs := [iv n_176]) (cs' := [iv 0, iv n_176, str []]) rfl rfl rfl rfl kf rfl rfl (lb rfl) rfl) ?_
        rintro _ _ rfl
        refine jA (jZ fo37_0 rfl) ?_
        refine jH rfl (jc 4 (vs := [iv n_178]) (cs' := [iv n_178, iv n_176, str []]) rfl rfl rfl rfl kf rfl rfl (lb rfl) rfl) ?_
        rintro _ _ rfl
        refine jE <| jk <| jB <| jD <| jF <| jT (jf 4 (vs := [iv n_178, iv n_176, str []]) rfl rfl kX kV rfl rfl) ?_
        refine jH rfl (jc 5 (vs := [iv n_178, iv n_176, str []]) (cs' := [iv n_178, iv n_176, str []]) rfl rfl rfl rfl kV rfl rfl (lb rfl) rfl) ?_
        rintro _ _ rfl
        refine jE <| jB <| jM <| jV (.inl rfl) rfl (je (jf 5 (vs := [iv n_178, iv n_176, str []]) rfl rfl kX kV rfl rfl) ⟨_, rfl⟩) (tS 4 _) ?_
        exact ⟨x_174, m_175, (⟨n_178, n_176, []⟩ : AN), (by simp only [MS.doCall, MS.doKind, MS.doNames, MS.doProc, *, SB]; (repeat (first | rw [if_pos (by omega)] | rw [if_neg (by omega)])); all_goals (first | rfl | simp only [SB, *])), (k_173.mono (by omega) (by omega)), (by (try dsimp only); (try simp only [List.length_nil]); omega), rfl, rfl⟩
      refine jQ (cB (dF h_171)) <| jD <| jF <| jA (ju rfl rfl) <| jA (jG (v := .bool (decide (c.kind = 18))) rfl) <| jE <| jB ?_
      by_cases h_180 : c.kind = 18
      · refine jR (cB (dT h_180)) <| jF <| jA (jC (v := pv p) rfl) <| jA (jC (v := iv proc) rfl) <| jA (jZ fo41_3 rfl) <| jT (ji 6 (v := iv c.a) rfl rfl kh rfl) ?_
        refine jH rfl (jI [0, 0, 0, 0] Tryz.call74 rfl (N_setTimer p x_6 m_7 k_5 (by omega) (by omega) proc c.a (by omega) (by omega)) rfl (fun _ _ => trivial)) ?_
        rintro _ _ ⟨_, ⟨x_183, m_184, n_185, e_181, k_182, f_186, rfl, rfl⟩, rfl⟩
        refine jA (jZ fo37_0 rfl) ?_
        refine jH rfl (jc 4 (vs := [iv n_185]) (cs' := [iv n_185, iv 0, str []]) rfl rfl rfl rfl kf rfl rfl (lb rfl) rfl) ?_
        rintro _ _ rfl
        refine jE <| jk <| jB <| jD <| jF <| jT (jf 4 (vs := [iv n_185, iv 0, str []]) rfl rfl kX kV rfl rfl) ?_
        refine jH rfl (jc 5 (vs := [iv n_185, iv 0, str []]) (cs' := [iv n_185, iv 0, str []]) rfl rfl rfl rfl kV rfl rfl (lb rfl) rfl) ?_
        rintro _ _ rfl
        refine jE <| jB <| jM <| jV (.inl rfl) rfl (je (jf 5 (vs := [iv n_185, iv 0, str []]) rfl rfl kX kV rfl rfl) ⟨_, rfl⟩) (tS 4 _) ?_
        exact ⟨x_183, m_184, (⟨n_185, 0, []⟩ : AN), (by simp only [MS.doCall, MS.doKind, MS.doNames, MS.doProc, *, SB]; (repeat (first | rw [if_pos (by omega)] | rw [if_neg (by omega)])); all_goals (first | rfl | simp only [SB, *])), (k_182.mono (by omega) (by omega)), (by (try dsimp only); (try simp only [List.length_nil]); omega), rfl, rfl⟩
      refine jQ (cB (dF h_180)) <| jD <| jF <| jA (ju rfl rfl) <| jA (jG (v := .bool (decide (c.kind = 19))) rfl) <| jE <| jB ?_
      by_cases h_187 : c.kind = 19
      · refine jR (cB (dT h_187)) <| jF <| jA (jC (v := pv p) rfl) <| jA (jZ fo41_3 rfl) <| jT (ji 6 (v := iv c.a) rfl rfl kh rfl) ?_
        refine jH rfl (jI [0, 0, 0, 0] Tryz.call75 rfl (N_tick p x_6 m_7 k_5 (by omega) (by omega) c.a (by omega)) rfl (fun _ _ => trivial)) ?_
        rintro _ _ ⟨_, ⟨x_190, m_191, n_192, n_194, e_188, k_189, f_193, f_195, rfl, rfl⟩, rfl⟩
        refine jA (jC (v := .tuple #[iv n_192, iv n_194]) rfl) <| jA (jS (v := iv n_192) rfl rfl) <| jA (jS (v := iv n_194) rfl rfl) <| jA (jZ fo37_1 rfl) ?_
        refine jH rfl (jc 4 (vs := [iv n_192]) (cs' := [iv 0, iv n_192, str []]) rfl rfl rfl rfl kf rfl rfl (lb rfl) rfl) ?_
        rintro _ _ rfl
        refine jA (jZ fo37_0 rfl) ?_
        refine jH rfl (jc 4 (vs := [iv n_194]) (cs' := [iv n_194, iv n_192, str []]) rfl rfl rfl rfl kf rfl rfl (lb rfl) rfl) ?_
        rintro _ _ rfl
        refine jE <| jk <| jB <| jD <| jF <| jT (jf 4 (vs := [iv n_194, iv n_192, str []]) rfl rfl kX kV rfl rfl) ?_
        refine jH rfl (jc 5 (vs := [iv n_194, iv n_192, str []]) (cs' := [iv n_194, iv n_192, str []]) rfl rfl rfl rfl kV rfl rfl (lb rfl) rfl) ?_
        rintro _ _ rfl
        refine jE <| jB <| jM <| jV (.inl rfl) rfl (je (jf 5 (vs := [iv n_194, iv n_192, str []]) rfl rfl kX kV rfl rfl) ⟨_, rfl⟩) (tS 4 _) ?_
        exact ⟨x_190, m_191, (⟨n_194, n_192, []⟩ : AN), (by simp only [MS.doCall, MS.doKind, MS.doNames, MS.doProc, *, SB]; (repeat (first | rw [if_pos (by omega)] | rw [if_neg (by omega)])); all_goals (first | rfl | simp only [SB, *])), (k_189.mono (by omega) (by omega)), (by (try dsimp only); (try simp only [List.length_nil]); omega), rfl, rfl⟩
      refine jQ (cB (dF h_187)) <| jD <| jF <| jA (ju rfl rfl) <| jA (jG (v := .bool (decide (c.kind = 20))) rfl) <| jE <| jB ?_
      by_cases h_196 : c.kind = 20
      · refine jR (cB (dT h_196)) <| jF <| jA (jC (v := pv p) rfl) <| jA (jC (v := iv proc) rfl) <| jA (jZ fo41_3 rfl) <| jT (ji 6 (v := iv c.a) rfl rfl kh rfl) <| jA (jZ fo41_5 rfl) <| jT (ji 6 (v := str c.text) rfl rfl kZ rfl) ?_
        refine jH rfl (jI [0, 0, 0, 0] Tryz.call76 rfl (N_storePage p x_6 m_7 k_5 (by omega) (by omega) proc c.a c.text (by omega) (by omega) (by omega)) rfl (fun _ _ => trivial)) ?_
        rintro _ _ ⟨_, ⟨x_199, m_200, n_201, e_197, k_198, f_202, rfl, rfl⟩, rfl⟩
        refine jA (jZ fo37_0 rfl) ?_
        refine jH rfl (jc 4 (vs := [iv n_201]) (cs' := [iv n_201, iv 0, str []]) rfl rfl rfl rfl kf rfl rfl (lb rfl) rfl) ?_
        rintro _ _ rfl
        refine jE <| jk <| jB <| jD <| jF <| jT (jf 4 (vs := [iv n_201, iv 0, str []]) rfl rfl kX kV rfl rfl) ?_
        refine jH rfl (jc 5 (vs := [iv n_201, iv 0, str []]) (cs' := [iv n_201, iv 0, str []]) rfl rfl rfl rfl kV rfl rfl (lb rfl) rfl) ?_
        rintro _ _ rfl
        refine jE <| jB <| jM <| jV (.inl rfl) rfl (je (jf 5 (vs := [iv n_201, iv 0, str []]) rfl rfl kX kV rfl rfl) ⟨_, rfl⟩) (tS 4 _) ?_
        exact ⟨x_199, m_200, (⟨n_201, 0, []⟩ : AN), (by simp only [MS.doCall, MS.doKind, MS.doNames, MS.doProc, *, SB]; (repeat (first | rw [if_pos (by omega)] | rw [if_neg (by omega)])); all_goals (first | rfl | simp only [SB, *])), (k_198.mono (by omega) (by omega)), (by (try dsimp only); (try simp only [List.length_nil]); omega), rfl, rfl⟩
      refine jQ (cB (dF h_196)) <| jD <| jF <| jA (ju rfl rfl) <| jA (jG (v := .bool (decide (c.kind = 21))) rfl) <| jE <| jB ?_
      by_cases h_203 : c.kind = 21
      · refine jR (cB (dT h_203)) <| jF <| jA (jC (v := pv p) rfl) <| jA (jC (v := iv proc) rfl) <| jA (jZ fo41_3 rfl) <| jT (ji 6 (v := iv c.a) rfl rfl kh rfl) ?_
        refine jH rfl (jI [0, 0, 0, 0] Tryz.call77 rfl (N_loadPage p x_6 m_7 k_5 (by omega) (by omega) proc c.a (by omega) (by omega)) rfl (fun w hw => hw.hex hlow hpre)) ?_
        rintro _ _ ⟨_, ⟨x_206, m_207, u_208, n_210, e_204, k_205, f_209, f_211, rfl, rfl⟩, rfl⟩
        refine jA (jC (v := .tuple #[str u_208, iv n_210]) rfl) <| jA (jS (v := str u_208) rfl rfl) <| jA (jS (v := iv n_210) rfl rfl) <| jA (jZ fo37_2 rfl) ?_
        refine jH rfl (jc 4 (vs := [str u_208]) (cs' := [iv 0, iv 0, str u_208]) rfl rfl rfl rfl ka rfl rfl (lb rfl) rfl) ?_
        rintro _ _ rfl
        refine jA (jZ fo37_0 rfl) ?_
        refine jH rfl (jc 4 (vs := [iv n_210]) (cs' := [iv n_210, iv 0, str u_208]) rfl rfl rfl rfl kf rfl rfl (lb rfl) rfl) ?_
        rintro _ _ rfl
        refine jE <| jk <| jB <| jD <| jF <| jT (jf 4 (vs := [iv n_210, iv 0, str u_208]) rfl rfl kX kV rfl rfl) ?_
        refine jH rfl (jc 5 (vs := [iv n_210, iv 0, str u_208]) (cs' := [iv n_210, iv 0, str u_208]) rfl rfl rfl rfl kV rfl rfl (lb rfl) rfl) ?_
        rintro _ _ rfl
        refine jE <| jB <| jM <| jV (.inl rfl) rfl (je (jf 5 (vs := [iv n_210, iv 0, str u_208]) rfl rfl kX kV rfl rfl) ⟨_, rfl⟩) (tS 4 _) ?_
        exact ⟨x_206, m_207, (⟨n_210, 0, u_208⟩ : AN), (by simp only [MS.doCall, MS.doKind, MS.doNames, MS.doProc, *, SB]; (repeat (first | rw [if_pos (by omega)] | rw [if_neg (by omega)])); all_goals (first | rfl | simp only [SB, *])), (k_205.mono (by omega) (by omega)), (by (try dsimp only); (try simp only [List.length_nil]); omega), rfl, rfl⟩
      refine jQ (cB (dF h_203)) <| jD <| jF <| jA (ju rfl rfl) <| jA (jG (v := .bool (decide (c.kind = 22))) rfl) <| jE <| jB ?_
      by_cases h_212 : c.kind = 22
      · refine jR (cB (dT h_212)) <| jF <| jA (jC (v := pv p) rfl) <| jA (jZ fo41_5 rfl) <| jT (ji 6 (v := str c.text) rfl rfl kZ rfl) ?_
        refine jH rfl (jI [0, 0, 0, 0] Tryz.call78 rfl (N_putOut p x_6 m_7 k_5 (by omega) (by omega) c.text (by omega)) rfl (fun _ _ => trivial)) ?_
        rintro _ _ ⟨_, ⟨x_215, m_216, n_217, e_213, k_214, f_218, rfl, rfl⟩, rfl⟩
        refine jA (jZ fo37_0 rfl) ?_
        refine jH rfl (jc 4 (vs := [iv n_217]) (cs' := [iv n_217, iv 0, str []]) rfl rfl rfl rfl kf rfl rfl (lb rfl) rfl) ?_
        rintro _ _ rfl
        refine jE <| jk <| jB <| jD <| jF <| jT (jf 4 (vs := [iv n_217, iv 0, str []]) rfl rfl kX kV rfl rfl) ?_
        refine jH rfl (jc 5 (vs := [iv n_217, iv 0, str []]) (cs' := [iv n_217, iv 0, str []]) rfl rfl rfl rfl kV rfl rfl (lb rfl) rfl) ?_
        rintro _ _ rfl
        refine jE <| jB <| jM <| jV (.inl rfl) rfl (je (jf 5 (vs := [iv n_217, iv 0, str []]) rfl rfl kX kV rfl rfl) ⟨_, rfl⟩) (tS 4 _) ?_
        exact ⟨x_215, m_216, (⟨n_217, 0, []⟩ : AN), (by simp only [MS.doCall, MS.doKind, MS.doNames, MS.doProc, *, SB]; (repeat (first | rw [if_pos (by omega)] | rw [if_neg (by omega)])); all_goals (first | rfl | simp only [SB, *])), (k_214.mono (by omega) (by omega)), (by (try dsimp only); (try simp only [List.length_nil]); omega), rfl, rfl⟩
      refine jQ (cB (dF h_212)) <| jU <| jk <| jB <| jD <| jF <| jT (jf 4 (vs := [iv 0, iv 0, str []]) rfl rfl kX kV rfl rfl) ?_
      refine jH rfl (jc 5 (vs := [iv 0, iv 0, str []]) (cs' := [iv 0, iv 0, str []]) rfl rfl rfl rfl kV rfl rfl (lb rfl) rfl) ?_
      rintro _ _ rfl
      refine jE <| jB <| jM <| jV (.inl rfl) rfl (je (jf 5 (vs := [iv 0, iv 0, str []]) rfl rfl kX kV rfl rfl) ⟨_, rfl⟩) (tS 4 _) ?_
      exact ⟨x_6, m_7, (⟨0, 0, []⟩ : AN), (by exfalso; omega), (k_5.mono (by omega) (by omega)), (by (try dsimp only); (try simp only [List.length_nil]); omega), rfl, rfl⟩
    refine jR (cB (cN h_14)) <| jD <| jF <| jA (kP (ps := [(0, iv 4)]) (cs := [iv 4, iv 0, str []]) rfl (by kernel_rfl)) ?_
    refine jH rfl (jc 5 (vs := [iv 4, iv 0, str []]) (cs' := [iv 4, iv 0, str []]) rfl rfl rfl rfl kV rfl rfl (lb rfl) rfl) ?_
    rintro _ _ rfl
    refine jE <| jB <| jM <| jz <| jX <| jV (.inl rfl) rfl (je (jf 5 (vs := [iv 4, iv 0, str []]) rfl rfl kX kV rfl rfl) ⟨_, rfl⟩) (tS 4 _) ?_
    exact ⟨x_6, m_7, (⟨4, 0, []⟩ : AN), (by simp only [MS.doCall, MS.doKind, MS.doNames, MS.doProc, e_4, h_10, e_11, h_14, SB]; (repeat (first | rw [if_pos (by omega)] | rw [if_neg (by omega)])); all_goals (first | rfl | simp only [SB, e_4, h_10, e_11, h_14])), (k_5.mono (by omega) (by omega)), (by (try dsimp only); (try simp only [List.length_nil]); omega), rfl, rfl⟩
  refine jR (cB (cN (dF h_10))) <| jD <| jF <| jA (kP (ps := [(0, iv 2)]) (cs := [iv 2, iv 0, str []]) rfl (by kernel_rfl)) ?_
  refine jH rfl (jc 5 (vs := [iv 2, iv 0, str []]) (cs' := [iv 2, iv 0, str []]) rfl rfl rfl rfl kV rfl rfl (lb rfl) rfl) ?_
  rintro _ _ rfl
  refine jE <| jB <| jM <| jz <| jX <| jV (.inl rfl) rfl (je (jf 5 (vs := [iv 2, iv 0, str []]) rfl rfl kX kV rfl rfl) ⟨_, rfl⟩) (tS 4 _) ?_
  exact ⟨x_6, m_7, (⟨2, 0, []⟩ : AN), (by simp only [MS.doCall, MS.doKind, MS.doNames, MS.doProc, e_4, h_10, SB]; (repeat (first | rw [if_pos (by omega)] | rw [if_neg (by omega)])); all_goals (first | rfl | simp only [SB, e_4, h_10])), (k_5.mono (by omega) (by omega)), (by (try dsimp only); (try simp only [List.length_nil]); omega), rfl, rfl⟩

theorem M_doNames (x : MA) (m : MS) {S T : Nat} (hk : m.ok S T) (hS : S ≤ 1200000) (hT : T ≤ 1200000)  :
    Ct Tryz.prog 36 [mv x m] (mr x m) (fun _ => True) (fun v A' => ∃ x' m' r0, MS.doNames m = (m', r0) ∧ m'.ok (S) (T + 1) ∧ ((0 ≤ r0.code ∧ r0.code ≤ 9) ∧ (-1 ≤ r0.n ∧ r0.n ≤ 1000000000) ∧ r0.text.length ≤ 2000000000000) ∧ v = .tuple #[mv x' m', .agg #[.int .i64 r0.code, .int .i64 r0.n, str r0.text]] ∧ A' = mr x' m') := by
  refine Ct.intro Tryz.func36 rfl Tryz.ntmps36 (lb rfl) fun w0 hpre => ?_
  refine jD <| jF ?_
  refine jH rfl (jv (cs := (mc x m)) rfl rfl) ?_
  rintro _ _ ⟨b_1, rfl, rfl⟩
  refine jH rfl (jh (z := zM) (cs := zC) kd rfl) ?_
  rintro _ _ ⟨b_2, rfl, rfl⟩
  refine jH rfl (jh (z := .agg #[iv 0, iv 0, str []]) (cs := [iv 0, iv 0, str []]) kg rfl) ?_
  rintro _ _ ⟨b_3, rfl, rfl⟩
  refine jE <| jB <| jD <| jF <| jT (jP 2 x m rfl rfl) ?_
  refine jH rfl (jI [3, 3, 3] Tryz.call94 rfl (M_names x m hk (by omega) (by omega)) rfl (fun _ _ => trivial)) ?_
  rintro _ _ ⟨_, ⟨x_6, m_7, l_8a, l_8c, l_8, e_4, k_5, f_9, rfl, rfl⟩, rfl⟩
  refine jA (jC (v := .tuple #[mv x_6 m_7, .slice l_8a l_8.length l_8c]) rfl) <| jA (jS (v := mv x_6 m_7) rfl rfl) <| jA (jS (v := .slice l_8a l_8.length l_8c) rfl rfl) ?_
  refine jH rfl (jW 6 x_6 m_7 rfl rfl rfl rfl) ?_
  rintro _ _ rfl
  refine jA (jG (v := .slice l_8a l_8.length l_8c) rfl) <| jE <| jB <| jD <| jF <| jA (kP (ps := []) (cs := [iv 0, iv 0, str []]) rfl (by kernel_rfl)) ?_
  refine jH rfl (jh (z := .agg #[iv 0, iv 0, str []]) (cs := [iv 0, iv 0, str []]) kg rfl) ?_
  rintro _ _ ⟨b_10, rfl, rfl⟩
  refine jH rfl (jc 0 (vs := [iv 0, iv 0, str []]) (cs' := [iv 0, iv 0, str []]) rfl rfl rfl rfl kV rfl rfl (lb rfl) rfl) ?_
  rintro _ _ rfl
  refine jE <| jB <| jD <| jD <| jF <| jA (jG (v := iv 0) rfl) <| jE <| jB <| jm ?_
  have hno := names_ok hk e_4
  refine kE (fun k_ e_ L_ => ∃ j_ : Nat, ∃ t_ : Str, (j_ ≤ l_8.length) ∧ (t_.length ≤ j_ * 1048577) ∧ (joinL (l_8.drop j_) t_ = joinL l_8 []) ∧ e_ 1 = .pointer (some ⟨b_1, 0, none⟩) ∧ e_ 2 = .pointer (some ⟨b_2, 0, none⟩) ∧ e_ 3 = .pointer (some ⟨b_3, 0, none⟩) ∧ e_ 4 = .slice l_8a l_8.length l_8c ∧ e_ 5 = .pointer (some ⟨b_10, 0, none⟩) ∧ e_ 6 = nv j_ ∧ L_ = [bk b_10 37 [iv 0, iv 0, str t_], rC x_6.a0 x_6.c0 m_7.s, rS x_6.a1 x_6.c1 m_7.r, rS x_6.a2 x_6.c2 m_7.w, rS l_8a l_8c l_8, bk b_3 37 [iv 0, iv 0, str []], bk b_2 35 zC, mb b_1 x_6 m_7] ∧ k_ = l_8.length + 1 - j_) _ ⟨0, [], (by omega), (by simp), rfl, rfl, rfl, rfl, rfl, rfl, rfl, rfl, rfl⟩ ?_
  rintro _ e_11 _ ⟨j_, t_, hj, ht, hR, he_12, he_13, he_14, he_15, he_16, he_17, rfl, rfl⟩
  refine jD <| jD <| jF <| jA (jC (v := nv j_) he_17) <| jA (jC (v := .slice l_8a l_8.length l_8c) he_15) <| jA (kK kW rfl) <| jA (js rfl rfl) <| jE <| jB ?_
  by_cases h_18 : ((j_ : Nat) : Int) < ((l_8.length : Nat) : Int)
  · have hlt : j_ < l_8.length := by omega
    have hbj := hno.2 j_ hlt
    refine jR (cB (dT h_18)) <| jU <| jB <| jD <| jm <| jq [bk b_10 37 [iv 0, iv 0, str t_]] 8 mixed (by simp) <| jK 0 rfl (jZ fo37_2 he_16) <| jl 1 rfl (ji 0 (v := str t_) rfl rfl kZ rfl) <| jK 2 rfl (jC (v := .slice l_8a l_8.length l_8c) he_15) <| jK 3 rfl (jC (v := nv j_) he_17) ?_
    refine JA.facts fun hst => ?_
    obtain ⟨hr_19, hr_19b, -⟩ := row_some 4 rfl (by omega) hst
    refine jK 4 rfl (kH (i := j_) kW ka hr_19 hr_19b rfl rfl (by omega)) <| jL (i := 5) ?_
    refine jO rfl rfl (ja (LO.loadR1 4 (v := str (l_8.getD j_ [])) rfl rfl kZ (atS (by omega)))) ?_
    rintro _ _ ⟨rfl, rfl⟩
    refine ⟨(by simp), ?_⟩
    refine jK 6 rfl (kO rfl rfl (by (try simp only [List.length_append, List.length_cons, List.length_nil, List.length_drop, List.length_take]); omega)) <| jK 7 rfl (kO rfl rfl (by (try simp only [List.length_append, List.length_cons, List.length_nil, List.length_drop, List.length_take]); omega)) <| jK 8 rfl (jZ fo37_2 he_16) <| jL (i := 9) ?_
    refine jp rfl (jc 0 (vs := [str ((t_ ++ (l_8.getD j_ [])) ++ [32])]) (cs' := [iv 0, iv 0, str ((t_ ++ (l_8.getD j_ [])) ++ [32])]) rfl rfl rfl rfl ka rfl rfl (lb rfl) rfl) ?_
    rintro _ _ rfl
    refine jk <| jB <| jF <| jA (jC (v := nv j_) he_17) <| jA (jg (c := ((j_ + 1 : Nat) : Int)) rfl rfl (wr (by omega))) <| jA (jG (v := iv ((j_ + 1 : Nat) : Int)) rfl) <| jE <| jr [0, 0, 0, 0, 0, 0, 0, 0] (A := [bk b_10 37 [iv 0, iv 0, str ((t_ ++ (l_8.getD j_ [])) ++ [32])], rC x_6.a0 x_6.c0 m_7.s, rS x_6.a1 x_6.c1 m_7.r, rS x_6.a2 x_6.c2 m_7.w, rS l_8a l_8c l_8, bk b_3 37 [iv 0, iv 0, str []], bk b_2 35 zC, mb b_1 x_6 m_7]) rfl ?_
    refine jt (l_8.length + 1 - (j_ + 1)) (by omega) ⟨(j_ + 1), ((t_ ++ (l_8.getD j_ [])) ++ [32]), (by omega), (by simp only [LE]; omega), (by rw [drop_at (getD_some (d := []) hlt)] at hR; simp only [joinL] at hR; first | exact hR | (simp only [List.append_assoc] at hR ⊢; exact hR)), he_12, he_13, he_14, he_15, he_16, rfl, rfl, rfl⟩
  rw [List.drop_of_length_le (by omega)] at hR
  simp only [joinL] at hR
  have hRE := hR.symm
  refine jQ (cB (dF h_18)) <| kB <| jn <| jn <| kC <| jB <| jD <| jq [bk b_10 37 [iv 0, iv 0, str t_], mb b_1 x_6 m_7] 3 mixed (by simp) <| jl 0 rfl (jP 1 x_6 m_7 rfl he_12) <| jl 1 rfl (jf 0 (vs := [iv 0, iv 0, str t_]) rfl he_16 kX kV rfl rfl) ?_
  refine jL (i := 2) ?_
  refine jO rfl rfl (jW 6 x_6 m_7 rfl he_13 rfl rfl) ?_
  rintro _ _ rfl
  refine ⟨(by simp), ?_⟩
  refine jL (i := 3) ?_
  refine jp rfl (jc 5 (vs := [iv 0, iv 0, str t_]) (cs' := [iv 0, iv 0, str t_]) rfl he_14 rfl rfl kV rfl rfl (lb rfl) rfl) ?_
  rintro _ _ rfl
  refine jB <| jM <| kL (pick_perm [1, 1, 1] (A := [rC x_6.a0 x_6.c0 m_7.s, rS x_6.a1 x_6.c1 m_7.r, rS x_6.a2 x_6.c2 m_7.w]) (F := [bk b_10 37 [iv 0, iv 0, str t_], rS l_8a l_8c l_8, bk b_3 37 [iv 0, iv 0, str t_], mb b_2 x_6 m_7, mb b_1 x_6 m_7]) rfl).symm <| jj (.inl rfl) rfl (je (jP 6 x_6 m_7 rfl he_13) ⟨_, he_13⟩) (je (jf 5 (vs := [iv 0, iv 0, str t_]) rfl he_14 kX kV rfl rfl) ⟨_, he_14⟩) (tS 3 _) ?_
  exact ⟨x_6, m_7, (⟨0, 0, t_⟩ : AN), (by simp only [MS.doNames, e_4, h_18, hRE, SB]; (repeat (first | rw [if_pos (by omega)] | rw [if_neg (by omega)])); all_goals (first | rfl | simp only [SB, e_4, h_18, hRE])), (k_5.mono (by omega) (by omega)), (by (try dsimp only); (try simp only [List.length_nil]); omega), rfl, rfl⟩

theorem M_doProc (x : MA) (m : MS) {S T : Nat} (hk : m.ok S T) (hS : S ≤ 1200000) (hT : T ≤ 1200000) (proc : Int) (c : CL) (hproc : -9223372036854775808 ≤ proc ∧ proc ≤ 9223372036854775807) (hc : c.ok 1048576) :
    Ct Tryz.prog 48 [mv x m, .int .i64 proc, .agg #[.int .i64 c.kind, str c.name, str c.to_, .int .i64 c.a, .int .i64 c.b, str c.text]] (mr x m) (fun _ => True) (fun v A' => ∃ x' m' r0, MS.doProc m proc c = (m', r0) ∧ m'.ok (2 * S + 6) (T + 2 * S + 11) ∧ ((0 ≤ r0.code ∧ r0.code ≤ 9) ∧ (-1 ≤ r0.n ∧ r0.n ≤ 1000000000) ∧ r0.text.length ≤ 2000000000000) ∧ v = .tuple #[mv x' m', .agg #[.int .i64 r0.code, .int .i64 r0.n, str r0.text]] ∧ A' = mr x' m') := by
  refine Ct.intro Tryz.func48 rfl Tryz.ntmps48 (lb rfl) fun w0 hpre => ?_
  obtain ⟨hc1, hc2, hc3, hc4, hc5, hc6⟩ := id hc
  refine jD <| jF ?_
  refine jH rfl (jv (cs := (mc x m)) rfl rfl) ?_
  rintro _ _ ⟨b_1, rfl, rfl⟩
  refine jH rfl (jv (cs := [iv c.kind, str c.name, str c.to_, iv c.a, iv c.b, str c.text]) rfl rfl) ?_
  rintro _ _ ⟨b_2, rfl, rfl⟩
  refine jH rfl (jh (z := zM) (cs := zC) kd rfl) ?_
  rintro _ _ ⟨b_3, rfl, rfl⟩
  refine jH rfl (jh (z := .agg #[iv 0, iv 0, str []]) (cs := [iv 0, iv 0, str []]) kg rfl) ?_
  rintro _ _ ⟨b_4, rfl, rfl⟩
  refine jE <| jB <| jD <| jF <| jA (kP (ps := []) (cs := [iv 0, iv 0, str []]) rfl (by kernel_rfl)) ?_
  refine jH rfl (jh (z := .agg #[iv 0, iv 0, str []]) (cs := [iv 0, iv 0, str []]) kg rfl) ?_
  rintro _ _ ⟨b_5, rfl, rfl⟩
  refine jH rfl (jc 0 (vs := [iv 0, iv 0, str []]) (cs' := [iv 0, iv 0, str []]) rfl rfl rfl rfl kV rfl rfl (lb rfl) rfl) ?_
  rintro _ _ rfl
  refine jE <| jB <| jD <| jD <| jF <| jA (jZ fo41_0 rfl) <| jT (ji 3 (v := iv c.kind) rfl rfl kh rfl) <| jE <| jB <| jm ?_
  refine jD <| jF <| jA (ju rfl rfl) <| jA (jG (v := .bool (decide (c.kind = 12))) rfl) <| jE <| jB ?_
  by_cases h_6 : c.kind = 12
  · refine jR (cB (dT h_6)) <| jD <| jF <| jT (jP 4 x m rfl rfl) <| jA (jC (v := iv proc) rfl) ?_
    refine jH rfl (jI [5, 5, 5] Tryz.call109 rfl (M_spawn x m hk (by omega) (by omega) proc (by omega)) rfl (fun _ _ => trivial)) ?_
    rintro _ _ ⟨_, ⟨x_9, m_10, n_11, n_13, e_7, k_8, f_12, f_14, rfl, rfl⟩, rfl⟩
    refine jA (jC (v := .tuple #[mv x_9 m_10, iv n_11, iv n_13]) rfl) <| jA (jS (v := mv x_9 m_10) rfl rfl) <| jA (jS (v := iv n_11) rfl rfl) <| jA (jS (v := iv n_13) rfl rfl) ?_
    refine jH rfl (jW 7 x_9 m_10 rfl rfl rfl rfl) ?_
    rintro _ _ rfl
    refine jA (jZ fo37_1 rfl) ?_
    refine jH rfl (jc 3 (vs := [iv n_11]) (cs' := [iv 0, iv n_11, str []]) rfl rfl rfl rfl kf rfl rfl (lb rfl) rfl) ?_
    rintro _ _ rfl
    refine jA (jZ fo37_0 rfl) ?_
    refine jH rfl (jc 3 (vs := [iv n_13]) (cs' := [iv n_13, iv n_11, str []]) rfl rfl rfl rfl kf rfl rfl (lb rfl) rfl) ?_
    rintro _ _ rfl
    refine jE <| jB <| jD <| jF <| jA (jZ fo37_0 rfl) <| jT (ji 3 (v := iv n_13) rfl rfl kh rfl) <| jA (ju rfl rfl) <| jE <| jB ?_
    by_cases h_15 : n_13 = 0
    · refine jR (cB (dT h_15)) <| jF <| jT (jP 7 x_9 m_10 rfl rfl) <| jA (jC (v := iv proc) rfl) <| jA (jZ fo37_1 rfl) <| jT (ji 3 (v := iv n_11) rfl rfl kh rfl) ?_
      refine jH rfl (jI [0, 0, 0] Tryz.call110 rfl (M_forkPages x_9 m_10 k_8 (by omega) (by omega) proc n_11 (by omega) (by omega)) rfl (fun _ _ => trivial)) ?_
      rintro _ _ ⟨_, ⟨x_18, m_19, e_16, k_17, rfl, rfl⟩, rfl⟩
      refine jH rfl (jW 7 x_18 m_19 rfl rfl rfl rfl) ?_
      rintro _ _ rfl
      refine jE <| jk <| jB <| jD <| jq [bk b_5 37 [iv n_13, iv n_11, str []], mb b_1 x_18 m_19] 3 mixed (by simp) <| jl 0 rfl (jP 1 x_18 m_19 rfl rfl) <| jl 1 rfl (jf 0 (vs := [iv n_13, iv n_11, str []]) rfl rfl kX kV rfl rfl) <| jL (i := 2) ?_
      refine jO rfl rfl (jW 5 x_18 m_19 rfl rfl rfl rfl) ?_
      rintro _ _ rfl
      refine ⟨(by simp), ?_⟩
      refine jL (i := 3) ?_
      refine jp rfl (jc 4 (vs := [iv n_13, iv n_11, str []]) (cs' := [iv n_13, iv n_11, str []]) rfl rfl rfl rfl kV rfl rfl (lb rfl) rfl) ?_
      rintro _ _ rfl
      refine jB <| jM <| jj (.inl rfl) rfl (je (jP 5 x_18 m_19 rfl rfl) ⟨_, rfl⟩) (je (jf 4 (vs := [iv n_13, iv n_11, str []]) rfl rfl kX kV rfl rfl) ⟨_, rfl⟩) (tS 3 _) ?_
      exact ⟨x_18, m_19, (⟨n_13, n_11, []⟩ : AN), (by simp only [MS.doProc, h_6, e_7, h_15, e_16, SB]; (repeat (first | rw [if_pos (by omega)] | rw [if_neg (by omega)])); all_goals (first | rfl | simp only [SB, h_6, e_7, h_15, e_16])), (k_17.mono (by omega) (by omega)), (by (try dsimp only); (try simp only [List.length_nil]); omega), rfl, rfl⟩
    refine jQ (cB (dF h_15)) <| jU <| jk <| jB <| jD <| jq [bk b_5 37 [iv n_13, iv n_11, str []], mb b_1 x_9 m_10] 3 mixed (by simp) <| jl 0 rfl (jP 1 x_9 m_10 rfl rfl) <| jl 1 rfl (jf 0 (vs := [iv n_13, iv n_11, str []]) rfl rfl kX kV rfl rfl) <| jL (i := 2) ?_
    refine jO rfl rfl (jW 5 x_9 m_10 rfl rfl rfl rfl) ?_
    rintro _ _ rfl
    refine ⟨(by simp), ?_⟩
    refine jL (i := 3) ?_
    refine jp rfl (jc 4 (vs := [iv n_13, iv n_11, str []]) (cs' := [iv n_13, iv n_11, str []]) rfl rfl rfl rfl kV rfl rfl (lb rfl) rfl) ?_
    rintro _ _ rfl
    refine jB <| jM <| jj (.inl rfl) rfl (je (jP 5 x_9 m_10 rfl rfl) ⟨_, rfl⟩) (je (jf 4 (vs := [iv n_13, iv n_11, str []]) rfl rfl kX kV rfl rfl) ⟨_, rfl⟩) (tS 3 _) ?_
    exact ⟨x_9, m_10, (⟨n_13, n_11, []⟩ : AN), (by simp only [MS.doProc, h_6, e_7, h_15, SB]; (repeat (first | rw [if_pos (by omega)] | rw [if_neg (by omega)])); all_goals (first | rfl | simp only [SB, h_6, e_7, h_15])), (k_8.mono (by omega) (by omega)), (by (try dsimp only); (try simp only [List.length_nil]); omega), rfl, rfl⟩
  refine jQ (cB (dF h_6)) <| jD <| jF <| jA (ju rfl rfl) <| jA (jG (v := .bool (decide (c.kind = 13))) rfl) <| jE <| jB ?_
  by_cases h_20 : c.kind = 13
  · refine jR (cB (dT h_20)) <| jD <| jF <| jT (jP 4 x m rfl rfl) <| jA (jC (v := iv proc) rfl) <| jA (jZ fo41_3 rfl) <| jT (ji 3 (v := iv c.a) rfl rfl kh rfl) ?_
    refine jH rfl (jI [5, 5, 5] Tryz.call111 rfl (M_end x m hk (by omega) (by omega) proc c.a (by omega) (by omega)) rfl (fun _ _ => trivial)) ?_
    rintro _ _ ⟨_, ⟨x_23, m_24, n_25, e_21, k_22, f_26, rfl, rfl⟩, rfl⟩
    refine jA (jC (v := .tuple #[mv x_23 m_24, iv n_25]) rfl) <| jA (jS (v := mv x_23 m_24) rfl rfl) <| jA (jS (v := iv n_25) rfl rfl) ?_
    refine jH rfl (jW 7 x_23 m_24 rfl rfl rfl rfl) ?_
    rintro _ _ rfl
    refine jA (jZ fo37_0 rfl) ?_
    refine jH rfl (jc 3 (vs := [iv n_25]) (cs' := [iv n_25, iv 0, str []]) rfl rfl rfl rfl kf rfl rfl (lb rfl) rfl) ?_
    rintro _ _ rfl
    refine jE <| jB <| jD <| jF <| jA (jZ fo37_0 rfl) <| jT (ji 3 (v := iv n_25) rfl rfl kh rfl) <| jA (ju rfl rfl) <| jE <| jB ?_
    by_cases h_27 : n_25 = 0
    · refine jR (cB (dT h_27)) <| jF <| jT (jP 7 x_23 m_24 rfl rfl) <| jA (jC (v := iv proc) rfl) ?_
      refine jH rfl (jI [0, 0, 0] Tryz.call112 rfl (M_dropPages x_23 m_24 k_22 (by omega) (by omega) proc (by omega)) rfl (fun _ _ => trivial)) ?_
      rintro _ _ ⟨_, ⟨x_30, m_31, e_28, k_29, rfl, rfl⟩, rfl⟩
      refine jH rfl (jW 7 x_30 m_31 rfl rfl rfl rfl) ?_
      rintro _ _ rfl
      refine jE <| jk <| jB <| jD <| jq [bk b_5 37 [iv n_25, iv 0, str []], mb b_1 x_30 m_31] 3 mixed (by simp) <| jl 0 rfl (jP 1 x_30 m_31 rfl rfl) <| jl 1 rfl (jf 0 (vs := [iv n_25, iv 0, str []]) rfl rfl kX kV rfl rfl) <| jL (i := 2) ?_
      refine jO rfl rfl (jW 5 x_30 m_31 rfl rfl rfl rfl) ?_
      rintro _ _ rfl
      refine ⟨(by simp), ?_⟩
      refine jL (i := 3) ?_
      refine jp rfl (jc 4 (vs := [iv n_25, iv 0, str []]) (cs' := [iv n_25, iv 0, str []]) rfl rfl rfl rfl kV rfl rfl (lb rfl) rfl) ?_
      rintro _ _ rfl
      refine jB <| jM <| jj (.inl rfl) rfl (je (jP 5 x_30 m_31 rfl rfl) ⟨_, rfl⟩) (je (jf 4 (vs := [iv n_25, iv 0, str []]) rfl rfl kX kV rfl rfl) ⟨_, rfl⟩) (tS 3 _) ?_
      exact ⟨x_30, m_31, (⟨n_25, 0, []⟩ : AN), (by simp only [MS.doProc, h_6, h_20, e_21, h_27, e_28, SB]; (repeat (first | rw [if_pos (by omega)] | rw [if_neg (by omega)])); all_goals (first | rfl | simp only [SB, h_6, h_20, e_21, h_27, e_28])), (k_29.mono (by omega) (by omega)), (by (try dsimp only); (try simp only [List.length_nil]); omega), rfl, rfl⟩
    refine jQ (cB (dF h_27)) <| jU <| jk <| jB <| jD <| jq [bk b_5 37 [iv n_25, iv 0, str []], mb b_1 x_23 m_24] 3 mixed (by simp) <| jl 0 rfl (jP 1 x_23 m_24 rfl rfl) <| jl 1 rfl (jf 0 (vs := [iv n_25, iv 0, str []]) rfl rfl kX kV rfl rfl) <| jL (i := 2) ?_
    refine jO rfl rfl (jW 5 x_23 m_24 rfl rfl rfl rfl) ?_
    rintro _ _ rfl
    refine ⟨(by simp), ?_⟩
    refine jL (i := 3) ?_
    refine jp rfl (jc 4 (vs := [iv n_25, iv 0, str []]) (cs' := [iv n_25, iv 0, str []]) rfl rfl rfl rfl kV rfl rfl (lb rfl) rfl) ?_
    rintro _ _ rfl
    refine jB <| jM <| jj (.inl rfl) rfl (je (jP 5 x_23 m_24 rfl rfl) ⟨_, rfl⟩) (je (jf 4 (vs := [iv n_25, iv 0, str []]) rfl rfl kX kV rfl rfl) ⟨_, rfl⟩) (tS 3 _) ?_
    exact ⟨x_23, m_24, (⟨n_25, 0, []⟩ : AN), (by simp only [MS.doProc, h_6, h_20, e_21, h_27, SB]; (repeat (first | rw [if_pos (by omega)] | rw [if_neg (by omega)])); all_goals (first | rfl | simp only [SB, h_6, h_20, e_21, h_27])), (k_22.mono (by omega) (by omega)), (by (try dsimp only); (try simp only [List.length_nil]); omega), rfl, rfl⟩
  refine jQ (cB (dF h_20)) <| jD <| jF <| jA (ju rfl rfl) <| jA (jG (v := .bool (decide (c.kind = 14))) rfl) <| jE <| jB ?_
  by_cases h_32 : c.kind = 14
  · refine jR (cB (dT h_32)) <| jF <| jT (jP 4 x m rfl rfl) <| jA (jC (v := iv proc) rfl) <| jA (jZ fo41_3 rfl) <| jT (ji 3 (v := iv c.a) rfl rfl kh rfl) ?_
    refine jH rfl (jI [5, 5, 5] Tryz.call113 rfl (M_reap x m hk (by omega) (by omega) proc c.a (by omega) (by omega)) rfl (fun _ _ => trivial)) ?_
    rintro _ _ ⟨_, ⟨x_35, m_36, n_37, n_39, e_33, k_34, f_38, f_40, rfl, rfl⟩, rfl⟩
    refine jA (jC (v := .tuple #[mv x_35 m_36, iv n_37, iv n_39]) rfl) <| jA (jS (v := mv x_35 m_36) rfl rfl) <| jA (jS (v := iv n_37) rfl rfl) <| jA (jS (v := iv n_39) rfl rfl) ?_
    refine jH rfl (jW 7 x_35 m_36 rfl rfl rfl rfl) ?_
    rintro _ _ rfl
    refine jA (jZ fo37_1 rfl) ?_
    refine jH rfl (jc 3 (vs := [iv n_37]) (cs' := [iv 0, iv n_37, str []]) rfl rfl rfl rfl kf rfl rfl (lb rfl) rfl) ?_
    rintro _ _ rfl
    refine jA (jZ fo37_0 rfl) ?_
    refine jH rfl (jc 3 (vs := [iv n_39]) (cs' := [iv n_39, iv n_37, str []]) rfl rfl rfl rfl kf rfl rfl (lb rfl) rfl) ?_
    rintro _ _ rfl
    refine jE <| jk <| jB <| jD <| jq [bk b_5 37 [iv n_39, iv n_37, str []], mb b_1 x_35 m_36] 3 mixed (by simp) <| jl 0 rfl (jP 1 x_35 m_36 rfl rfl) <| jl 1 rfl (jf 0 (vs := [iv n_39, iv n_37, str []]) rfl rfl kX kV rfl rfl) <| jL (i := 2) ?_
    refine jO rfl rfl (jW 5 x_35 m_36 rfl rfl rfl rfl) ?_
    rintro _ _ rfl
    refine ⟨(by simp), ?_⟩
    refine jL (i := 3) ?_
    refine jp rfl (jc 4 (vs := [iv n_39, iv n_37, str []]) (cs' := [iv n_39, iv n_37, str []]) rfl rfl rfl rfl kV rfl rfl (lb rfl) rfl) ?_
    rintro _ _ rfl
    refine jB <| jM <| jj (.inl rfl) rfl (je (jP 5 x_35 m_36 rfl rfl) ⟨_, rfl⟩) (je (jf 4 (vs := [iv n_39, iv n_37, str []]) rfl rfl kX kV rfl rfl) ⟨_, rfl⟩) (tS 3 _) ?_
    exact ⟨x_35, m_36, (⟨n_39, n_37, []⟩ : AN), (by simp only [MS.doProc, h_6, h_20, h_32, e_33, SB]; (repeat (first | rw [if_pos (by omega)] | rw [if_neg (by omega)])); all_goals (first | rfl | simp only [SB, h_6, h_20, h_32, e_33])), (k_34.mono (by omega) (by omega)), (by (try dsimp only); (try simp only [List.length_nil]); omega), rfl, rfl⟩
  refine jQ (cB (dF h_32)) <| jD <| jF ?_
  refine jH rfl (kI (ps := []) (cur := #[]) gB kf Tryz.zeroValue3 rfl (by kernel_rfl) (by decide) (by decide)) ?_
  rintro _ _ ⟨a_41, rfl, rfl⟩
  refine jA (jG (v := .slice a_41 0 0) rfl) <| jE <| jB <| jD <| jF <| jT (jP 5 x m rfl rfl) <| jA (jC (v := iv proc) rfl) ?_
  refine jH rfl (jI [6, 6, 6] Tryz.call114 rfl (M_kids x m hk (by omega) (by omega) proc (by omega)) rfl (fun _ _ => trivial)) ?_
  rintro _ _ ⟨_, ⟨x_44, m_45, l_46a, l_46c, l_46, e_42, k_43, f_47, rfl, rfl⟩, rfl⟩
  refine jA (jC (v := .tuple #[mv x_44 m_45, .slice l_46a l_46.length l_46c]) rfl) <| jA (jS (v := mv x_44 m_45) rfl rfl) <| jA (jS (v := .slice l_46a l_46.length l_46c) rfl rfl) ?_
  refine jH rfl (jW 9 x_44 m_45 rfl rfl rfl rfl) ?_
  rintro _ _ rfl
  refine jA (jG (v := .slice l_46a l_46.length l_46c) rfl) <| jE <| jB <| jD <| jF <| jA (jG (v := iv 0) rfl) <| jE <| jB <| jm ?_
  have hno := kids_ok e_42
  refine kE (fun k_ e_ L_ => ∃ j_ : Nat, ∃ t_ : Str, (j_ ≤ l_46.length) ∧ (t_.length ≤ j_ * 1048577) ∧ (joinD (l_46.drop j_) t_ = joinD l_46 []) ∧ e_ 3 = .pointer (some ⟨b_1, 0, none⟩) ∧ e_ 6 = .pointer (some ⟨b_3, 0, none⟩) ∧ e_ 7 = .pointer (some ⟨b_4, 0, none⟩) ∧ e_ 8 = .pointer (some ⟨b_5, 0, none⟩) ∧ e_ 9 = .slice l_46a l_46.length l_46c ∧ e_ 10 = nv j_ ∧ L_ = [rC x_44.a0 x_44.c0 m_45.s, rS x_44.a1 x_44.c1 m_45.r, rS x_44.a2 x_44.c2 m_45.w, rI l_46a l_46c l_46, Res.row (.slice a_41 0 0) 3 1 0 (([] : List Int).map (Value.int .i64)), bk b_5 37 [iv 0, iv 0, str t_], bk b_4 37 [iv 0, iv 0, str []], bk b_3 35 zC, bk b_2 41 [iv c.kind, str c.name, str c.to_, iv c.a, iv c.b, str c.text], mb b_1 x_44 m_45] ∧ k_ = l_46.length + 1 - j_) _ ⟨0, [], (by omega), (by simp), rfl, rfl, rfl, rfl, rfl, rfl, rfl, rfl, rfl⟩ ?_
  rintro _ e_48 _ ⟨j_, t_, hj, ht, hR, he_49, he_50, he_51, he_52, he_53, he_54, rfl, rfl⟩
  refine jD <| jD <| jF <| jA (jC (v := nv j_) he_54) <| jA (jC (v := .slice l_46a l_46.length l_46c) he_53) <| jA (kK gB rfl) <| jA (js rfl rfl) <| jE <| jB ?_
  by_cases h_55 : ((j_ : Nat) : Int) < ((l_46.length : Nat) : Int)
  · have hlt : j_ < l_46.length := by omega
    have hbj := hno _ (getD_mem (d := 0) hlt)
    refine jR (cB (dT h_55)) <| jU <| jB <| jD <| jm <| jq [bk b_5 37 [iv 0, iv 0, str t_]] 9 mixed (by simp) <| jK 0 rfl (jZ fo37_2 he_52) <| jl 1 rfl (ji 0 (v := str t_) rfl rfl kZ rfl) <| jK 2 rfl (jC (v := .slice l_46a l_46.length l_46c) he_53) <| jK 3 rfl (jC (v := nv j_) he_54) ?_
    refine JA.facts fun hst => ?_
    obtain ⟨hr_56, hr_56b, -⟩ := row_some 3 rfl (by omega) hst
    refine jK 4 rfl (kH (i := j_) gB kf hr_56 hr_56b rfl rfl (by omega)) <| jL (i := 5) ?_
    refine jO rfl rfl (ja (LO.loadR1 3 (v := iv (l_46.getD j_ 0)) rfl rfl kh (atI (by omega)))) ?_
    rintro _ _ ⟨rfl, rfl⟩
    refine ⟨(by simp), ?_⟩
    refine jL (i := 6) ?_
    refine jO rfl rfl (jI [] Tryz.call115 rfl (N_sDec (l_46.getD j_ 0) (by omega)) rfl (fun _ _ => trivial)) ?_
    rintro _ _ ⟨_, ⟨u_63, e_61, f_64, rfl, rfl⟩, rfl⟩
    refine ⟨(by simp), ?_⟩
    refine jK 7 rfl (kO rfl rfl (by (try simp only [List.length_append, List.length_cons, List.length_nil, List.length_drop, List.length_take]); omega)) <| jK 8 rfl (kO rfl rfl (by (try simp only [List.length_append, List.length_cons, List.length_nil, List.length_drop, List.length_take]); omega)) <| jK 9 rfl (jZ fo37_2 he_52) <| jL (i := 10) ?_
    refine jp rfl (jc 5 (vs := [str ((t_ ++ u_63) ++ [32])]) (cs' := [iv 0, iv 0, str ((t_ ++ u_63) ++ [32])]) rfl rfl rfl rfl ka rfl rfl (lb rfl) rfl) ?_
    rintro _ _ rfl
    refine jk <| jB <| jF <| jA (jC (v := nv j_) he_54) <| jA (jg (c := ((j_ + 1 : Nat) : Int)) rfl rfl (wr (by omega))) <| jA (jG (v := iv ((j_ + 1 : Nat) : Int)) rfl) <| jE <| jr [0, 0, 0, 0, 0, 0, 0, 0, 0, 0] (A := [rC x_44.a0 x_44.c0 m_45.s, rS x_44.a1 x_44.c1 m_45.r, rS x_44.a2 x_44.c2 m_45.w, rI l_46a l_46c l_46, Res.row (.slice a_41 0 0) 3 1 0 (([] : List Int).map (Value.int .i64)), bk b_5 37 [iv 0, iv 0, str ((t_ ++ u_63) ++ [32])], bk b_4 37 [iv 0, iv 0, str []], bk b_3 35 zC, bk b_2 41 [iv c.kind, str c.name, str c.to_, iv c.a, iv c.b, str c.text], mb b_1 x_44 m_45]) rfl ?_
    refine jt (l_46.length + 1 - (j_ + 1)) (by omega) ⟨(j_ + 1), ((t_ ++ u_63) ++ [32]), (by omega), (by simp only [LE]; omega), (by rw [drop_at (getD_some (d := 0) hlt)] at hR; simp only [joinD, e_61] at hR; first | exact hR | (simp only [List.append_assoc] at hR ⊢; exact hR)), he_49, he_50, he_51, he_52, he_53, rfl, rfl, rfl⟩
  rw [List.drop_of_length_le (by omega)] at hR
  simp only [joinD] at hR
  have hRE := hR.symm
  refine jQ (cB (dF h_55)) <| kB <| jn <| jn <| kC <| jk <| jB <| jD <| jq [bk b_5 37 [iv 0, iv 0, str t_], mb b_1 x_44 m_45] 3 mixed (by simp) <| jl 0 rfl (jP 1 x_44 m_45 rfl he_49) ?_
  refine jl 1 rfl (jf 0 (vs := [iv 0, iv 0, str t_]) rfl he_52 kX kV rfl rfl) <| jL (i := 2) ?_
  refine jO rfl rfl (jW 7 x_44 m_45 rfl he_50 rfl rfl) ?_
  rintro _ _ rfl
  refine ⟨(by simp), ?_⟩
  refine jL (i := 3) ?_
  refine jp rfl (jc 6 (vs := [iv 0, iv 0, str t_]) (cs' := [iv 0, iv 0, str t_]) rfl he_51 rfl rfl kV rfl rfl (lb rfl) rfl) ?_
  rintro _ _ rfl
  refine jB <| jM <| jj (.inl rfl) rfl (je (jP 7 x_44 m_45 rfl he_50) ⟨_, he_50⟩) (je (jf 6 (vs := [iv 0, iv 0, str t_]) rfl he_51 kX kV rfl rfl) ⟨_, he_51⟩) (tS 3 _) ?_
  exact ⟨x_44, m_45, (⟨0, 0, t_⟩ : AN), (by simp only [MS.doProc, h_6, h_20, h_32, e_42, h_55, hRE, SB]; (repeat (first | rw [if_pos (by omega)] | rw [if_neg (by omega)])); all_goals (first | rfl | simp only [SB, h_6, h_20, h_32, e_42, h_55, hRE])), (k_43.mono (by omega) (by omega)), (by (try dsimp only); (try simp only [List.length_nil]); omega), rfl, rfl⟩

theorem M_doFile (x : MA) (m : MS) {S T : Nat} (hk : m.ok S T) (hS : S ≤ 1200000) (hT : T ≤ 1200000) (c : CL) (hc : c.ok 1048576) :
    Ct Tryz.prog 37 [mv x m, .agg #[.int .i64 c.kind, str c.name, str c.to_, .int .i64 c.a, .int .i64 c.b, str c.text]] (mr x m) (fun _ => True) (fun v A' => ∃ x' m' r0, MS.doFile m c = (m', r0) ∧ m'.ok (S + 12) (T + 141) ∧ ((0 ≤ r0.code ∧ r0.code ≤ 9) ∧ (-1 ≤ r0.n ∧ r0.n ≤ 1000000000) ∧ r0.text.length ≤ 2000000000000) ∧ v = .tuple #[mv x' m', .agg #[.int .i64 r0.code, .int .i64 r0.n, str r0.text]] ∧ A' = mr x' m') := by
  refine Ct.intro Tryz.func37 rfl Tryz.ntmps37 (lb rfl) fun w0 hpre => ?_
  obtain ⟨hc1, hc2, hc3, hc4, hc5, hc6⟩ := id hc
  refine jD <| jF ?_
  refine jH rfl (jv (cs := (mc x m)) rfl rfl) ?_
  rintro _ _ ⟨b_1, rfl, rfl⟩
  refine jH rfl (jv (cs := [iv c.kind, str c.name, str c.to_, iv c.a, iv c.b, str c.text]) rfl rfl) ?_
  rintro _ _ ⟨b_2, rfl, rfl⟩
  refine jH rfl (jh (z := zM) (cs := zC) kd rfl) ?_
  rintro _ _ ⟨b_3, rfl, rfl⟩
  refine jH rfl (jh (z := .agg #[iv 0, iv 0, str []]) (cs := [iv 0, iv 0, str []]) kg rfl) ?_
  rintro _ _ ⟨b_4, rfl, rfl⟩
  refine jE <| jB <| jD <| jF <| jT (jP 3 x m rfl rfl) <| jA (jZ fo41_1 rfl) <| jT (ji 2 (v := str c.name) rfl rfl kZ rfl) ?_
  refine jH rfl (jI [4, 4, 4] Tryz.call88 rfl (M_fileOf x m hk (by omega) (by omega) c.name (by omega)) rfl (fun _ _ => trivial)) ?_
  rintro _ _ ⟨_, ⟨x_7, m_8, n_9, e_5, k_6, f_10, rfl, rfl⟩, rfl⟩
  refine jA (jC (v := .tuple #[mv x_7 m_8, iv n_9]) rfl) <| jA (jS (v := mv x_7 m_8) rfl rfl) <| jA (jS (v := iv n_9) rfl rfl) ?_
  refine jH rfl (jW 6 x_7 m_8 rfl rfl rfl rfl) ?_
  rintro _ _ rfl
  refine jA (jG (v := iv n_9) rfl) <| jE <| jB <| jD <| jD <| jF <| jA (jC (v := iv n_9) rfl) <| jA (ju rfl rfl) <| jE <| jB ?_
  by_cases h_11 : n_9 = 0
  · refine jR (cB (dT h_11)) <| jD <| jF <| jT (jP 6 x_7 m_8 rfl rfl) <| jA (kP (ps := [(0, iv 2)]) (cs := [iv 2, iv 0, str []]) rfl (by kernel_rfl)) ?_
    refine jH rfl (jW 4 x_7 m_8 rfl rfl rfl rfl) ?_
    rintro _ _ rfl
    refine jH rfl (jc 3 (vs := [iv 2, iv 0, str []]) (cs' := [iv 2, iv 0, str []]) rfl rfl rfl rfl kV rfl rfl (lb rfl) rfl) ?_
    rintro _ _ rfl
    refine jE <| jB <| jM <| jX <| jj (.inl rfl) rfl (je (jP 4 x_7 m_8 rfl rfl) ⟨_, rfl⟩) (je (jf 3 (vs := [iv 2, iv 0, str []]) rfl rfl kX kV rfl rfl) ⟨_, rfl⟩) (tS 3 _) ?_
    exact ⟨x_7, m_8, (⟨2, 0, []⟩ : AN), (by simp only [MS.doFile, e_5, h_11, SB]; (repeat (first | rw [if_pos (by omega)] | rw [if_neg (by omega)])); all_goals (first | rfl | simp only [SB, e_5, h_11])), (k_6.mono (by omega) (by omega)), (by (try dsimp only); (try simp only [List.length_nil]); omega), rfl, rfl⟩
  refine jQ (cB (dF h_11)) <| jU <| jB <| jD <| jF <| jA (kP (ps := []) (cs := [iv 0, iv 0, str []]) rfl (by kernel_rfl)) ?_
  refine jH rfl (jh (z := .agg #[iv 0, iv 0, str []]) (cs := [iv 0, iv 0, str []]) kg rfl) ?_
  rintro _ _ ⟨b_12, rfl, rfl⟩
  refine jH rfl (jc 0 (vs := [iv 0, iv 0, str []]) (cs' := [iv 0, iv 0, str []]) rfl rfl rfl rfl kV rfl rfl (lb rfl) rfl) ?_
  rintro _ _ rfl
  refine jE <| jB <| jD <| jD <| jF <| jA (jZ fo41_0 rfl) <| jT (ji 6 (v := iv c.kind) rfl rfl kh rfl) <| jE <| jB <| jm ?_
  refine jD <| jF <| jA (ju rfl rfl) <| jA (jG (v := .bool (decide (c.kind = 6))) rfl) <| jE <| jB ?_
  by_cases h_13 : c.kind = 6
  · refine jR (cB (dT h_13)) <| jF <| jT (jP 7 x_7 m_8 rfl rfl) <| jA (jC (v := iv n_9) rfl) <| jA (jZ fo41_3 rfl) <| jT (ji 6 (v := iv c.a) rfl rfl kh rfl) <| jA (jZ fo41_4 rfl) <| jT (ji 6 (v := iv c.b) rfl rfl kh rfl) ?_
    refine jH rfl (jI [1, 1, 1] Tryz.call95 rfl (M_readFile x_7 m_8 k_6 (by omega) (by omega) n_9 c.a c.b (by omega) (by omega) (by omega)) rfl (fun _ _ => trivial)) ?_
    rintro _ _ ⟨_, ⟨x_16, m_17, u_18, e_14, k_15, f_19, rfl, rfl⟩, rfl⟩
    refine jA (jC (v := .tuple #[mv x_16 m_17, str u_18]) rfl) <| jA (jS (v := mv x_16 m_17) rfl rfl) <| jA (jS (v := str u_18) rfl rfl) ?_
    refine jH rfl (jW 7 x_16 m_17 rfl rfl rfl rfl) ?_
    rintro _ _ rfl
    refine jA (jZ fo37_2 rfl) ?_
    refine jH rfl (jc 3 (vs := [str u_18]) (cs' := [iv 0, iv 0, str u_18]) rfl rfl rfl rfl ka rfl rfl (lb rfl) rfl) ?_
    rintro _ _ rfl
    refine jE <| jk <| jB <| jD <| jq [bk b_12 37 [iv 0, iv 0, str u_18], mb b_1 x_16 m_17] 3 mixed (by simp) <| jl 0 rfl (jP 1 x_16 m_17 rfl rfl) <| jl 1 rfl (jf 0 (vs := [iv 0, iv 0, str u_18]) rfl rfl kX kV rfl rfl) <| jL (i := 2) ?_
    refine jO rfl rfl (jW 5 x_16 m_17 rfl rfl rfl rfl) ?_
    rintro _ _ rfl
    refine ⟨(by simp), ?_⟩
    refine jL (i := 3) ?_
    refine jp rfl (jc 4 (vs := [iv 0, iv 0, str u_18]) (cs' := [iv 0, iv 0, str u_18]) rfl rfl rfl rfl kV rfl rfl (lb rfl) rfl) ?_
    rintro _ _ rfl
    refine jB <| jM <| jj (.inl rfl) rfl (je (jP 5 x_16 m_17 rfl rfl) ⟨_, rfl⟩) (je (jf 4 (vs := [iv 0, iv 0, str u_18]) rfl rfl kX kV rfl rfl) ⟨_, rfl⟩) (tS 3 _) ?_
    exact ⟨x_16, m_17, (⟨0, 0, u_18⟩ : AN), (by simp only [MS.doFile, e_5, h_11, h_13, e_14, SB]; (repeat (first | rw [if_pos (by omega)] | rw [if_neg (by omega)])); all_goals (first | rfl | simp only [SB, e_5, h_11, h_13, e_14])), (k_15.mono (by omega) (by omega)), (by (try dsimp only); (try simp only [List.length_nil]); omega), rfl, rfl⟩
  refine jQ (cB (dF h_13)) <| jD <| jF <| jA (ju rfl rfl) <| jA (jG (v := .bool (decide (c.kind = 7))) rfl) <| jE <| jB ?_
  by_cases h_20 : c.kind = 7
  · refine jR (cB (dT h_20)) <| jF <| jT (jP 7 x_7 m_8 rfl rfl) <| jA (jC (v := iv n_9) rfl) <| jA (jZ fo41_3 rfl) <| jT (ji 6 (v := iv c.a) rfl rfl kh rfl) <| jA (jZ fo41_5 rfl) <| jT (ji 6 (v := str c.text) rfl rfl kZ rfl) ?_
    refine jH rfl (jI [1, 1, 1] Tryz.call96 rfl (M_writeFile x_7 m_8 k_6 (by omega) (by omega) n_9 c.a c.text (by omega) (by omega) (by omega)) rfl (fun _ _ => trivial)) ?_
    rintro _ _ ⟨_, ⟨x_23, m_24, n_25, e_21, k_22, f_26, rfl, rfl⟩, rfl⟩
    refine jA (jC (v := .tuple #[mv x_23 m_24, iv n_25]) rfl) <| jA (jS (v := mv x_23 m_24) rfl rfl) <| jA (jS (v := iv n_25) rfl rfl) ?_
    refine jH rfl (jW 7 x_23 m_24 rfl rfl rfl rfl) ?_
    rintro _ _ rfl
    refine jA (jZ fo37_0 rfl) ?_
    refine jH rfl (jc 3 (vs := [iv n_25]) (cs' := [iv n_25, iv 0, str []]) rfl rfl rfl rfl kf rfl rfl (lb rfl) rfl) ?_
    rintro _ _ rfl
    refine jE <| jk <| jB <| jD <| jq [bk b_12 37 [iv n_25, iv 0, str []], mb b_1 x_23 m_24] 3 mixed (by simp) <| jl 0 rfl (jP 1 x_23 m_24 rfl rfl) <| jl 1 rfl (jf 0 (vs := [iv n_25, iv 0, str []]) rfl rfl kX kV rfl rfl) <| jL (i := 2) ?_
    refine jO rfl rfl (jW 5 x_23 m_24 rfl rfl rfl rfl) ?_
    rintro _ _ rfl
    refine ⟨(by simp), ?_⟩
    refine jL (i := 3) ?_
    refine jp rfl (jc 4 (vs := [iv n_25, iv 0, str []]) (cs' := [iv n_25, iv 0, str []]) rfl rfl rfl rfl kV rfl rfl (lb rfl) rfl) ?_
    rintro _ _ rfl
    refine jB <| jM <| jj (.inl rfl) rfl (je (jP 5 x_23 m_24 rfl rfl) ⟨_, rfl⟩) (je (jf 4 (vs := [iv n_25, iv 0, str []]) rfl rfl kX kV rfl rfl) ⟨_, rfl⟩) (tS 3 _) ?_
    exact ⟨x_23, m_24, (⟨n_25, 0, []⟩ : AN), (by simp only [MS.doFile, e_5, h_11, h_13, h_20, e_21, SB]; (repeat (first | rw [if_pos (by omega)] | rw [if_neg (by omega)])); all_goals (first | rfl | simp only [SB, e_5, h_11, h_13, h_20, e_21])), (k_22.mono (by omega) (by omega)), (by (try dsimp only); (try simp only [List.length_nil]); omega), rfl, rfl⟩
  refine jQ (cB (dF h_20)) <| jF <| jT (jP 7 x_7 m_8 rfl rfl) <| jA (jC (v := iv n_9) rfl) <| jA (jZ fo41_3 rfl) <| jT (ji 6 (v := iv c.a) rfl rfl kh rfl) ?_
  refine jH rfl (jI [1, 1, 1] Tryz.call97 rfl (M_cutFile x_7 m_8 k_6 (by omega) (by omega) n_9 c.a (by omega) (by omega)) rfl (fun _ _ => trivial)) ?_
  rintro _ _ ⟨_, ⟨x_29, m_30, n_31, e_27, k_28, f_32, rfl, rfl⟩, rfl⟩
  refine jA (jC (v := .tuple #[mv x_29 m_30, iv n_31]) rfl) <| jA (jS (v := mv x_29 m_30) rfl rfl) <| jA (jS (v := iv n_31) rfl rfl) ?_
  refine jH rfl (jW 7 x_29 m_30 rfl rfl rfl rfl) ?_
  rintro _ _ rfl
  refine jA (jZ fo37_0 rfl) ?_
  refine jH rfl (jc 3 (vs := [iv n_31]) (cs' := [iv n_31, iv 0, str []]) rfl rfl rfl rfl kf rfl rfl (lb rfl) rfl) ?_
  rintro _ _ rfl
  refine jE <| jk <| jB <| jD <| jq [bk b_12 37 [iv n_31, iv 0, str []], mb b_1 x_29 m_30] 3 mixed (by simp) <| jl 0 rfl (jP 1 x_29 m_30 rfl rfl) <| jl 1 rfl (jf 0 (vs := [iv n_31, iv 0, str []]) rfl rfl kX kV rfl rfl) <| jL (i := 2) ?_
  refine jO rfl rfl (jW 5 x_29 m_30 rfl rfl rfl rfl) ?_
  rintro _ _ rfl
  refine ⟨(by simp), ?_⟩
  refine jL (i := 3) ?_
  refine jp rfl (jc 4 (vs := [iv n_31, iv 0, str []]) (cs' := [iv n_31, iv 0, str []]) rfl rfl rfl rfl kV rfl rfl (lb rfl) rfl) ?_
  rintro _ _ rfl
  refine jB <| jM <| jj (.inl rfl) rfl (je (jP 5 x_29 m_30 rfl rfl) ⟨_, rfl⟩) (je (jf 4 (vs := [iv n_31, iv 0, str []]) rfl rfl kX kV rfl rfl) ⟨_, rfl⟩) (tS 3 _) ?_
  exact ⟨x_29, m_30, (⟨n_31, 0, []⟩ : AN), (by simp only [MS.doFile, e_5, h_11, h_13, h_20, e_27, SB]; (repeat (first | rw [if_pos (by omega)] | rw [if_neg (by omega)])); all_goals (first | rfl | simp only [SB, e_5, h_11, h_13, h_20, e_27])), (k_28.mono (by omega) (by omega)), (by (try dsimp only); (try simp only [List.length_nil]); omega), rfl, rfl⟩

end Go.Proofs.YthdgcbdfcclgbaaGreatDoor

set_option linter.unusedSimpArgs false
set_option linter.unusedVariables false
set_option linter.unnecessarySimpa false
namespace Go.Proofs.YthdgcbdfcclgbaaGreatDoor
open Go Go.RowKit
attribute [local irreducible] JL JC JQ JO LO PO JA JX Ct

set_option maxHeartbeats 3000000 in
theorem M_do (x : MA) (m : MS) {S T : Nat} (hk : m.ok S T) (hS : S ≤ 1100000) (hT : T ≤ 1100000) (proc : Int) (c : CL) (hproc : -9223372036854775808 ≤ proc ∧ proc ≤ 9223372036854775807) (hc : c.ok 1048576) :
    Ct Tryz.prog 16 [mv x m, .int .i64 proc, .agg #[.int .i64 c.kind, str c.name, str c.to_, .int .i64 c.a, .int .i64 c.b, str c.text]] (mr x m) (fun _ => True) (fun v A' => ∃ x' m' r0, MS.doCall m proc c = (m', r0) ∧ m'.ok (3 * S + 20) (T + 7 * S + 200) ∧ ((0 ≤ r0.code ∧ r0.code ≤ 9) ∧ (-1 ≤ r0.n ∧ r0.n ≤ 1000000000) ∧ r0.text.length ≤ 2000000000000) ∧ v = .tuple #[mv x' m', .agg #[.int .i64 r0.code, .int .i64 r0.n, str r0.text]] ∧ A' = mr x' m') := by
  refine Ct.intro Tryz.func16 rfl Tryz.ntmps16 (lb rfl) fun w0 hpre => ?_
  obtain ⟨hc1, hc2, hc3, hc4, hc5, hc6⟩ := id hc
  refine jD <| jF ?_
  refine jH rfl (jv (cs := (mc x m)) rfl rfl) ?_
  rintro _ _ ⟨b_1, rfl, rfl⟩
  refine jH rfl (jv (cs := [iv c.kind, str c.name, str c.to_, iv c.a, iv c.b, str c.text]) rfl rfl) ?_
  rintro _ _ ⟨b_2, rfl, rfl⟩
  refine jH rfl (jh (z := zM) (cs := zC) kd rfl) ?_
  rintro _ _ ⟨b_3, rfl, rfl⟩
  refine jH rfl (jh (z := .agg #[iv 0, iv 0, str []]) (cs := [iv 0, iv 0, str []]) kg rfl) ?_
  rintro _ _ ⟨b_4, rfl, rfl⟩
  refine jE <| jB <| jD <| jF <| jT (jP 3 x m rfl rfl) <| jA (jC (v := iv proc) rfl) ?_
  refine jH rfl (jI [4, 4, 4] Tryz.call30 rfl (M_state x m hk (by omega) (by omega) proc (by omega)) rfl (fun _ _ => trivial)) ?_
  rintro _ _ ⟨_, ⟨x_7, m_8, n_9, e_5, k_6, f_10, rfl, rfl⟩, rfl⟩
  refine jA (jC (v := .tuple #[mv x_7 m_8, iv n_9]) rfl) <| jA (jS (v := mv x_7 m_8) rfl rfl) <| jA (jS (v := iv n_9) rfl rfl) ?_
  refine jH rfl (jW 6 x_7 m_8 rfl rfl rfl rfl) ?_
  rintro _ _ rfl
  refine jA (jG (v := iv n_9) rfl) <| jE <| jB <| jD <| jD <| jF <| jA (jC (v := iv n_9) rfl) <| jA (kQ rfl rfl) <| jE <| jB ?_
  by_cases h_11 : n_9 = 1
  · refine jQ (cB (cN (dT h_11))) <| jU <| jB <| jD <| jD <| jF <| jT (jf 5 (vs := [iv c.kind, str c.name, str c.to_, iv c.a, iv c.b, str c.text]) rfl rfl kx kv rfl rfl) ?_
    refine jH rfl (jI [] Tryz.call31 rfl (N_scallOk c hc) rfl (fun _ _ => trivial)) ?_
    rintro _ _ ⟨_, ⟨b_14, e_12, rfl, rfl⟩, rfl⟩
    refine jA (kA rfl) <| jE <| jB ?_
    rcases Bool.eq_false_or_eq_true (b_14) with h_15 | h_15
    · refine jQ (cB (cN h_15)) <| jU <| jB <| jD <| jF <| jA (kP (ps := []) (cs := [iv 0, iv 0, str []]) rfl (by kernel_rfl)) ?_
      refine jH rfl (jh (z := .agg #[iv 0, iv 0, str []]) (cs := [iv 0, iv 0, str []]) kg rfl) ?_
      rintro _ _ ⟨b_16, rfl, rfl⟩
      refine jH rfl (jc 0 (vs := [iv 0, iv 0, str []]) (cs' := [iv 0, iv 0, str []]) rfl rfl rfl rfl kV rfl rfl (lb rfl) rfl) ?_
      rintro _ _ rfl
      refine jE <| jB <| jD <| jD <| jF <| jA (jZ fo41_0 rfl) <| jT (ji 6 (v := iv c.kind) rfl rfl kh rfl) <| jE <| jB <| jm ?_
      refine jD <| jF <| jA (ju rfl rfl) <| jA (jG (v := .bool (decide (c.kind = 1))) rfl) <| jE <| jB ?_
      by_cases h_17 : c.kind = 1
      · refine jR (cB (dT h_17)) <| jF <| jT (jP 7 x_7 m_8 rfl rfl) <| jA (jZ fo41_1 rfl) <| jT (ji 6 (v := str c.name) rfl rfl kZ rfl) ?_
        refine jH rfl (jI [1, 1, 1] Tryz.call32 rfl (M_makeName x_7 m_8 k_6 (by omega) (by omega) c.name (by omega)) rfl (fun _ _ => trivial)) ?_
        rintro _ _ ⟨_, ⟨x_20, m_21, n_22, n_24, e_18, k_19, f_23, f_25, rfl, rfl⟩, rfl⟩
        refine jA (jC (v := .tuple #[mv x_20 m_21, iv n_22, iv n_24]) rfl) <| jA (jS (v := mv x_20 m_21) rfl rfl) <| jA (jS (v := iv n_22) rfl rfl) <| jA (jS (v := iv n_24) rfl rfl) ?_
        refine jH rfl (jW 7 x_20 m_21 rfl rfl rfl rfl) ?_
        rintro _ _ rfl
        refine jA (jZ fo37_1 rfl) ?_
        refine jH rfl (jc 3 (vs := [iv n_22]) (cs' := [iv 0, iv n_22, str []]) rfl rfl rfl rfl kf rfl rfl (lb rfl) rfl) ?_
        rintro _ _ rfl
        refine jA (jZ fo37_0 rfl) ?_
        refine jH rfl (jc 3 (vs := [iv n_24]) (cs' := [iv n_24, iv n_22, str []]) rfl rfl rfl rfl kf rfl rfl (lb rfl) rfl) ?_
        rintro _ _ rfl
        refine jE <| jk <| jB <| jD <| jq [bk b_16 37 [iv n_24, iv n_22, str []], mb b_1 x_20 m_21] 3 mixed (by simp) <| jl 0 rfl (jP 1 x_20 m_21 rfl rfl) <| jl 1 rfl (jf 0 (vs := [iv n_24, iv n_22, str []]) rfl rfl kX kV rfl rfl) <| jL (i := 2) ?_
        refine jO rfl rfl (jW 5 x_20 m_21 rfl rfl rfl rfl) ?_
        rintro _ _ rfl
        refine ⟨(by simp), ?_⟩
        refine jL (i := 3) ?_
        refine jp rfl (jc 4 (vs := [iv n_24, iv n_22, str []]) (cs' := [iv n_24, iv n_22, str []]) rfl rfl rfl rfl kV rfl rfl (lb rfl) rfl) ?_
        rintro _ _ rfl
        refine jB <| jM <| jj (.inl rfl) rfl (je (jP 5 x_20 m_21 rfl rfl) ⟨_, rfl⟩) (je (jf 4 (vs := [iv n_24, iv n_22, str []]) rfl rfl kX kV rfl rfl) ⟨_, rfl⟩) (tS 3 _) ?_
        exact ⟨x_20, m_21, (⟨n_24, n_22, []⟩ : AN), (by simp only [MS.doCall, MS.doKind, e_5, h_11, e_12, h_15, h_17, e_18, SB]; (repeat (first | rw [if_pos (by omega)] | rw [if_neg (by omega)])); all_goals (first | rfl | simp only [SB, e_5, h_11, e_12, h_15, h_17, e_18])), (k_19.mono (by omega) (by omega)), (by (try dsimp only); (try simp only [List.length_nil]); omega), rfl, rfl⟩
      refine jQ (cB (dF h_17)) <| jD <| jF <| jA (ju rfl rfl) <| jA (jG (v := .bool (decide (c.kind = 2))) rfl) <| jE <| jB ?_
      by_cases h_26 : c.kind = 2
      · refine jR (cB (dT h_26)) <| jF <| jT (jP 7 x_7 m_8 rfl rfl) <| jA (jZ fo41_1 rfl) <| jT (ji 6 (v := str c.name) rfl rfl kZ rfl) <| jA (jZ fo41_2 rfl) <| jT (ji 6 (v := str c.to_) rfl rfl kZ rfl) ?_
        refine jH rfl (jI [1, 1, 1] Tryz.call33 rfl (M_linkName x_7 m_8 k_6 (by omega) (by omega) c.name c.to_ (by omega) (by omega)) rfl (fun _ _ => trivial)) ?_
        rintro _ _ ⟨_, ⟨x_29, m_30, n_31, e_27, k_28, f_32, rfl, rfl⟩, rfl⟩
        refine jA (jC (v := .tuple #[mv x_29 m_30, iv n_31]) rfl) <| jA (jS (v := mv x_29 m_30) rfl rfl) <| jA (jS (v := iv n_31) rfl rfl) ?_
        refine jH rfl (jW 7 x_29 m_30 rfl rfl rfl rfl) ?_
        rintro _ _ rfl
        refine jA (jZ fo37_0 rfl) ?_
        refine jH rfl (jc 3 (vs := [iv n_31]) (cs' := [iv n_31, iv 0, str []]) rfl rfl rfl rfl kf rfl rfl (lb rfl) rfl) ?_
        rintro _ _ rfl
        refine jE <| jk <| jB <| jD <| jq [bk b_16 37 [iv n_31, iv 0, str []], mb b_1 x_29 m_30] 3 mixed (by simp) <| jl 0 rfl (jP 1 x_29 m_30 rfl rfl) <| jl 1 rfl (jf 0 (vs := [iv n_31, iv 0, str []]) rfl rfl kX kV rfl rfl) <| jL (i := 2) ?_
        refine jO rfl rfl (jW 5 x_29 m_30 rfl rfl rfl rfl) ?_
        rintro _ _ rfl
        refine ⟨(by simp), ?_⟩
        refine jL (i := 3) ?_
        refine jp rfl (jc 4 (vs := [iv n_31, iv 0, str []]) (cs' := [iv n_31, iv 0, str []]) rfl rfl rfl rfl kV rfl rfl (lb rfl) rfl) ?_
        rintro _ _ rfl
        refine jB <| jM <| jj (.inl rfl) rfl (je (jP 5 x_29 m_30 rfl rfl) ⟨_, rfl⟩) (je (jf 4 (vs := [iv n_31, iv 0, str []]) rfl rfl kX kV rfl rfl) ⟨_, rfl⟩) (tS 3 _) ?_
        exact ⟨x_29, m_30, (⟨n_31, 0, []⟩ : AN), (by simp only [MS.doCall, MS.doKind, e_5, h_11, e_12, h_15, h_17, h_26, e_27, SB]; (repeat (first | rw [if_pos (by omega)] | rw [if_neg (by omega)])); all_goals (first | rfl | simp only [SB, e_5, h_11, e_12, h_15, h_17, h_26, e_27])), (k_28.mono (by omega) (by omega)), (by (try dsimp only); (try simp only [List.length_nil]); omega), rfl, rfl⟩
      refine jQ (cB (dF h_26)) <| jD <| jF <| jA (ju rfl rfl) <| jA (jG (v := .bool (decide (c.kind = 3))) rfl) <| jE <| jB ?_
      by_cases h_33 : c.kind = 3
      · refine jR (cB (dT h_33)) <| jF <| jT (jP 7 x_7 m_8 rfl rfl) <| jA (jZ fo41_1 rfl) <| jT (ji 6 (v := str c.name) rfl rfl kZ rfl) ?_
        refine jH rfl (jI [1, 1, 1] Tryz.call34 rfl (M_unlinkName x_7 m_8 k_6 (by omega) (by omega) c.name (by omega)) rfl (fun _ _ => trivial)) ?_
        rintro _ _ ⟨_, ⟨x_36, m_37, n_38, e_34, k_35, f_39, rfl, rfl⟩, rfl⟩
        refine jA (jC (v := .tuple #[mv x_36 m_37, iv n_38]) rfl) <| jA (jS (v := mv x_36 m_37) rfl rfl) <| jA (jS (v := iv n_38) rfl rfl) ?_
        refine jH rfl (jW 7 x_36 m_37 rfl rfl rfl rfl) ?_
        rintro _ _ rfl
        refine jA (jZ fo37_0 rfl) ?_
        refine jH rfl (jc 3 (vs := [iv n_38]) (cs' := [iv n_38, iv 0, str []]) rfl rfl rfl rfl kf rfl rfl (lb rfl) rfl) ?_
        rintro _ _ rfl
        refine jE <| jk <| jB <| jD <| jq [bk b_16 37 [iv n_38, iv 0, str []], mb b_1 x_36 m_37] 3 mixed (by simp) <| jl 0 rfl (jP 1 x_36 m_37 rfl rfl) <| jl 1 rfl (jf 0 (vs := [iv n_38, iv 0, str []]) rfl rfl kX kV rfl rfl) <| jL (i := 2) ?_
        refine jO rfl rfl (jW 5 x_36 m_37 rfl rfl rfl rfl) ?_
        rintro _ _ rfl
        refine ⟨(by simp), ?_⟩
        refine jL (i := 3) ?_
        refine jp rfl (jc 4 (vs := [iv n_38, iv 0, str []]) (cs' := [iv n_38, iv 0, str []]) rfl rfl rfl rfl kV rfl rfl (lb rfl) rfl) ?_
        rintro _ _ rfl
        refine jB <| jM <| jj (.inl rfl) rfl (je (jP 5 x_36 m_37 rfl rfl) ⟨_, rfl⟩) (je (jf 4 (vs := [iv n_38, iv 0, str []]) rfl rfl kX kV rfl rfl) ⟨_, rfl⟩) (tS 3 _) ?_
        exact ⟨x_36, m_37, (⟨n_38, 0, []⟩ : AN), (by simp only [MS.doCall, MS.doKind, e_5, h_11, e_12, h_15, h_17, h_26, h_33, e_34, SB]; (repeat (first | rw [if_pos (by omega)] | rw [if_neg (by omega)])); all_goals (first | rfl | simp only [SB, e_5, h_11, e_12, h_15, h_17, h_26, h_33, e_34])), (k_35.mono (by omega) (by omega)), (by (try dsimp only); (try simp only [List.length_nil]); omega), rfl, rfl⟩
      refine jQ (cB (dF h_33)) <| jD <| jF <| jA (ju rfl rfl) <| jA (jG (v := .bool (decide (c.kind = 4))) rfl) <| jE <| jB ?_
      by_cases h_40 : c.kind = 4
      · refine jR (cB (dT h_40)) <| jF <| jT (jP 7 x_7 m_8 rfl rfl) <| jA (jZ fo41_1 rfl) <| jT (ji 6 (v := str c.name) rfl rfl kZ rfl) <| jA (jZ fo41_2 rfl) <| jT (ji 6 (v := str c.to_) rfl rfl kZ rfl) ?_
        refine jH rfl (jI [1, 1, 1] Tryz.call35 rfl (M_renameName x_7 m_8 k_6 (by omega) (by omega) c.name c.to_ (by omega) (by omega)) rfl (fun _ _ => trivial)) ?_
        rintro _ _ ⟨_, ⟨x_43, m_44, n_45, e_41, k_42, f_46, rfl, rfl⟩, rfl⟩
        refine jA (jC (v := .tuple #[mv x_43 m_44, iv n_45]) rfl) <| jA (jS (v := mv x_43 m_44) rfl rfl) <| jA (jS (v := iv n_45) rfl rfl) ?_
        refine jH rfl (jW 7 x_43 m_44 rfl rfl rfl rfl) ?_
        rintro _ _ rfl
        refine jA (jZ fo37_0 rfl) ?_
        refine jH rfl (jc 3 (vs := [iv n_45]) (cs' := [iv n_45, iv 0, str []]) rfl rfl rfl rfl kf rfl rfl (lb rfl) rfl) ?_
        rintro _ _ rfl
        refine jE <| jk <| jB <| jD <| jq [bk b_16 37 [iv n_45, iv 0, str []], mb b_1 x_43 m_44] 3 mixed (by simp) <| jl 0 rfl (jP 1 x_43 m_44 rfl rfl) <| jl 1 rfl (jf 0 (vs := [iv n_45, iv 0, str []]) rfl rfl kX kV rfl rfl) <| jL (i := 2) ?_
        refine jO rfl rfl (jW 5 x_43 m_44 rfl rfl rfl rfl) ?_
        rintro _ _ rfl
        refine ⟨(by simp), ?_⟩
        refine jL (i := 3) ?_
        refine jp rfl (jc 4 (vs := [iv n_45, iv 0, str []]) (cs' := [iv n_45, iv 0, str []]) rfl rfl rfl rfl kV rfl rfl (lb rfl) rfl) ?_
        rintro _ _ rfl
        refine jB <| jM <| jj (.inl rfl) rfl (je (jP 5 x_43 m_44 rfl rfl) ⟨_, rfl⟩) (je (jf 4 (vs := [iv n_45, iv 0, str []]) rfl rfl kX kV rfl rfl) ⟨_, rfl⟩) (tS 3 _) ?_
        exact ⟨x_43, m_44, (⟨n_45, 0, []⟩ : AN), (by simp only [MS.doCall, MS.doKind, *, SB]; (repeat (first | rw [if_pos (by omega)] | rw [if_neg (by omega)])); all_goals (first | rfl | simp only [SB, *])), (k_42.mono (by omega) (by omega)), (by (try dsimp only); (try simp only [List.length_nil]); omega), rfl, rfl⟩
      refine jQ (cB (dF h_40)) <| jD <| jF <| jA (ju rfl rfl) <| jA (jG (v := .bool (decide (c.kind = 5))) rfl) <| jE <| jB ?_
      by_cases h_47 : c.kind = 5
      · refine jR (cB (dT h_47)) <| jD <| jF <| jT (jP 7 x_7 m_8 rfl rfl) ?_
        refine jH rfl (jI [1, 1, 1] Tryz.call36 rfl (M_doNames x_7 m_8 k_6 (by omega) (by omega)) rfl (fun _ _ => trivial)) ?_
        rintro _ _ ⟨_, ⟨x_50, m_51, A_52, e_48, k_49, f_53, rfl, rfl⟩, rfl⟩
        refine jA (jS (v := mv x_50 m_51) rfl rfl) <| jA (jS (v := .agg #[iv A_52.code, iv A_52.n, str A_52.text]) rfl rfl) ?_
        refine jH rfl (jW 5 x_50 m_51 rfl rfl rfl rfl) ?_
        rintro _ _ rfl
        refine jH rfl (jc 4 (vs := [iv A_52.code, iv A_52.n, str A_52.text]) (cs' := [iv A_52.code, iv A_52.n, str A_52.text]) rfl rfl rfl rfl kV rfl rfl (lb rfl) rfl) ?_
        rintro _ _ rfl
        refine jE <| jB <| jM <| jz <| jX <| jj (.inl rfl) rfl (je (jP 5 x_50 m_51 rfl rfl) ⟨_, rfl⟩) (je (jf 4 (vs := [iv A_52.code, iv A_52.n, str A_52.text]) rfl rfl kX kV rfl rfl) ⟨_, rfl⟩) (tS 3 _) ?_
        exact ⟨x_50, m_51, A_52, (by simp only [MS.doCall, MS.doKind, *, SB]; (repeat (first | rw [if_pos (by omega)] | rw [if_neg (by omega)])); all_goals (first | rfl | simp only [SB, *])), (k_49.mono (by omega) (by omega)), (by (try dsimp only); (try simp only [List.length_nil]); omega), rfl, rfl⟩
      refine jQ (cB (dF h_47)) <| jD <| jD <| jF <| jA (ju rfl rfl) <| jA (jG (v := .bool (decide (c.kind = 6))) rfl) <| jE <| jB ?_
      by_cases h_54 : c.kind = 6
      · refine jR (cB (dT h_54)) <| jU <| jB <| jR (cB (dT h_54)) <| jD <| jF <| jT (jP 7 x_7 m_8 rfl rfl) <| jT (jf 6 (vs := [iv c.kind, str c.name, str c.to_, iv c.a, iv c.b, str c.text]) rfl rfl kx kv rfl rfl) ?_
        refine jH rfl (jI [1, 1, 1] Tryz.call37 rfl (M_doFile x_7 m_8 k_6 (by omega) (by omega) c hc) rfl (fun _ _ => trivial)) ?_
        rintro _ _ ⟨_, ⟨x_57, m_58, A_59, e_55, k_56, f_60, rfl, rfl⟩, rfl⟩
        refine jA (jS (v := mv x_57 m_58) rfl rfl) <| jA (jS (v := .agg #[iv A_59.code, iv A_59.n, str A_59.text]) rfl rfl) ?_
        refine jH rfl (jW 5 x_57 m_58 rfl rfl rfl rfl) ?_
        rintro _ _ rfl
        refine jH rfl (jc 4 (vs := [iv A_59.code, iv A_59.n, str A_59.text]) (cs' := [iv A_59.code, iv A_59.n, str A_59.text]) rfl rfl rfl rfl kV rfl rfl (lb rfl) rfl) ?_
        rintro _ _ rfl
        refine jE <| jB <| jM <| jz <| jX <| jj (.inl rfl) rfl (je (jP 5 x_57 m_58 rfl rfl) ⟨_, rfl⟩) (je (jf 4 (vs := [iv A_59.code, iv A_59.n, str A_59.text]) rfl rfl kX kV rfl rfl) ⟨_, rfl⟩) (tS 3 _) ?_
        exact ⟨x_57, m_58, A_59, (by simp only [MS.doCall, MS.doKind, *, SB]; (repeat (first | rw [if_pos (by omega)] | rw [if_neg (by omega)])); all_goals (first | rfl | simp only [SB, *])), (k_56.mono (by omega) (by omega)), (by (try dsimp only); (try simp only [List.length_nil]); omega), rfl, rfl⟩
      refine jQ (cB (dF h_54)) <| jD <| jF <| jA (ju rfl rfl) <| jA (jG (v := .bool (decide (c.kind = 7))) rfl) <| jE <| jB ?_
      by_cases h_61 : c.kind = 7
      · refine jR (cB (dT h_61)) <| jU <| jB <| jR (cB (dT h_61)) <| jD <| jF <| jT (jP 7 x_7 m_8 rfl rfl) <| jT (jf 6 (vs := [iv c.kind, str c.name, str c.to_, iv c.a, iv c.b, str c.text]) rfl rfl kx kv rfl rfl) ?_
        refine jH rfl (jI [1, 1, 1] Tryz.call37 rfl (M_doFile x_7 m_8 k_6 (by omega) (by omega) c hc) rfl (fun _ _ => trivial)) ?_
        rintro _ _ ⟨_, ⟨x_64, m_65, A_66, e_62, k_63, f_67, rfl, rfl⟩, rfl⟩
        refine jA (jS (v := mv x_64 m_65) rfl rfl) <| jA (jS (v := .agg #[iv A_66.code, iv A_66.n, str A_66.text]) rfl rfl) ?_
        refine jH rfl (jW 5 x_64 m_65 rfl rfl rfl rfl) ?_
        rintro _ _ rfl
        refine jH rfl (jc 4 (vs := [iv A_66.code, iv A_66.n, str A_66.text]) (cs' := [iv A_66.code, iv A_66.n, str A_66.text]) rfl rfl rfl rfl kV rfl rfl (lb rfl) rfl) ?_
        rintro _ _ rfl
        refine jE <| jB <| jM <| jz <| jX <| jj (.inl rfl) rfl (je (jP 5 x_64 m_65 rfl rfl) ⟨_, rfl⟩) (je (jf 4 (vs := [iv A_66.code, iv A_66.n, str A_66.text]) rfl rfl kX kV rfl rfl) ⟨_, rfl⟩) (tS 3 _) ?_
        exact ⟨x_64, m_65, A_66, (by simp only [MS.doCall, MS.doKind, *, SB]; (repeat (first | rw [if_pos (by omega)] | rw [if_neg (by omega)])); all_goals (first | rfl | simp only [SB, *])), (k_63.mono (by omega) (by omega)), (by (try dsimp only); (try simp only [List.length_nil]); omega), rfl, rfl⟩
      refine jQ (cB (dF h_61)) <| jF <| jA (ju rfl rfl) <| jA (jG (v := .bool (decide (c.kind = 8))) rfl) <| jE <| jB ?_
      by_cases h_68 : c.kind = 8
      · refine jR (cB (dT h_68)) <| jD <| jF <| jT (jP 7 x_7 m_8 rfl rfl) <| jT (jf 6 (vs := [iv c.kind, str c.name, str c.to_, iv c.a, iv c.b, str c.text]) rfl rfl kx kv rfl rfl) ?_
        refine jH rfl (jI [1, 1, 1] Tryz.call37 rfl (M_doFile x_7 m_8 k_6 (by omega) (by omega) c hc) rfl (fun _ _ => trivial)) ?_
        rintro _ _ ⟨_, ⟨x_71, m_72, A_73, e_69, k_70, f_74, rfl, rfl⟩, rfl⟩
        refine jA (jS (v := mv x_71 m_72) rfl rfl) <| jA (jS (v := .agg #[iv A_73.code, iv A_73.n, str A_73.text]) rfl rfl) ?_
        refine jH rfl (jW 5 x_71 m_72 rfl rfl rfl rfl) ?_
        rintro _ _ rfl
        refine jH rfl (jc 4 (vs := [iv A_73.code, iv A_73.n, str A_73.text]) (cs' := [iv A_73.code, iv A_73.n, str A_73.text]) rfl rfl rfl rfl kV rfl rfl (lb rfl) rfl) ?_
        rintro _ _ rfl
        refine jE <| jB <| jM <| jz <| jX <| jj (.inl rfl) rfl (je (jP 5 x_71 m_72 rfl rfl) ⟨_, rfl⟩) (je (jf 4 (vs := [iv A_73.code, iv A_73.n, str A_73.text]) rfl rfl kX kV rfl rfl) ⟨_, rfl⟩) (tS 3 _) ?_
        exact ⟨x_71, m_72, A_73, (by simp only [MS.doCall, MS.doKind, *, SB]; (repeat (first | rw [if_pos (by omega)] | rw [if_neg (by omega)])); all_goals (first | rfl | simp only [SB, *])), (k_70.mono (by omega) (by omega)), (by (try dsimp only); (try simp only [List.length_nil]); omega), rfl, rfl⟩
      refine jQ (cB (dF h_68)) <| jD <| jF <| jA (ju rfl rfl) <| jA (jG (v := .bool (decide (c.kind = 9))) rfl) <| jE <| jB ?_
      by_cases h_75 : c.kind = 9
      · refine jR (cB (dT h_75)) <| jF <| jT (jP 7 x_7 m_8 rfl rfl) ?_
        refine jH rfl (jI [1, 1, 1] Tryz.call38 rfl (M_makePipe x_7 m_8 k_6 (by omega) (by omega)) rfl (fun _ _ => trivial)) ?_
        rintro _ _ ⟨_, ⟨x_78, m_79, n_80, n_82, e_76, k_77, f_81, f_83, rfl, rfl⟩, rfl⟩
        refine jA (jC (v := .tuple #[mv x_78 m_79, iv n_80, iv n_82]) rfl) <| jA (jS (v := mv x_78 m_79) rfl rfl) <| jA (jS (v := iv n_80) rfl rfl) <| jA (jS (v := iv n_82) rfl rfl) ?_
        refine jH rfl (jW 7 x_78 m_79 rfl rfl rfl rfl) ?_
        rintro _ _ rfl
        refine jA (jZ fo37_1 rfl) ?_
        refine jH rfl (jc 3 (vs := [iv n_80]) (cs' := [iv 0, iv n_80, str []]) rfl rfl rfl rfl kf rfl rfl (lb rfl) rfl) ?_
        rintro _ _ rfl
        refine jA (jZ fo37_0 rfl) ?_
        refine jH rfl (jc 3 (vs := [iv n_82]) (cs' := [iv n_82, iv n_80, str []]) rfl rfl rfl rfl kf rfl rfl (lb rfl) rfl) ?_
        rintro _ _ rfl
        refine jE <| jk <| jB <| jD <| jq [bk b_16 37 [iv n_82, iv n_80, str []], mb b_1 x_78 m_79] 3 mixed (by simp) <| jl 0 rfl (jP 1 x_78 m_79 rfl rfl) <| jl 1 rfl (jf 0 (vs := [iv n_82, iv n_80, str []]) rfl rfl kX kV rfl rfl) <| jL (i := 2) ?_
        refine jO rfl rfl (jW 5 x_78 m_79 rfl rfl rfl rfl) ?_
        rintro _ _ rfl
        refine ⟨(by simp), ?_⟩
        refine jL (i := 3) ?_
        refine jp rfl (jc 4 (vs := [iv n_82, iv n_80, str []]) (cs' := [iv n_82, iv n_80, str []]) rfl rfl rfl rfl kV rfl rfl (lb rfl) rfl) ?_
        rintro _ _ rfl
        refine jB <| jM <| jj (.inl rfl) rfl (je (jP 5 x_78 m_79 rfl rfl) ⟨_, rfl⟩) (je (jf 4 (vs := [iv n_82, iv n_80, str []]) rfl rfl kX kV rfl rfl) ⟨_, rfl⟩) (tS 3 _) ?_
        exact ⟨x_78, m_79, (⟨n_82, n_80, []⟩ : AN), (by simp only [MS.doCall, MS.doKind, *, SB]; (repeat (first | rw [if_pos (by omega)] | rw [if_neg (by omega)])); all_goals (first | rfl | simp only [SB, *])), (k_77.mono (by omega) (by omega)), (by (try dsimp only); (try simp only [List.length_nil]); omega), rfl, rfl⟩
      refine jQ (cB (dF h_75)) <| jD <| jF <| jA (ju rfl rfl) <| jA (jG (v := .bool (decide (c.kind = 10))) rfl) <| jE <| jB ?_
      by_cases h_84 : c.kind = 10
      · refine jR (cB (dT h_84)) <| jF <| jT (jP 7 x_7 m_8 rfl rfl) <| jA (jZ fo41_3 rfl) <| jT (ji 6 (v := iv c.a) rfl rfl kh rfl) <| jA (jZ fo41_5 rfl) <| jT (ji 6 (v := str c.text) rfl rfl kZ rfl) ?_
        refine jH rfl (jI [1, 1, 1] Tryz.call39 rfl (M_putPipe x_7 m_8 k_6 (by omega) (by omega) c.a c.text (by omega) (by omega)) rfl (fun _ _ => trivial)) ?_
        rintro _ _ ⟨_, ⟨x_87, m_88, n_89, e_85, k_86, f_90, rfl, rfl⟩, rfl⟩
        refine jA (jC (v := .tuple #[mv x_87 m_88, iv n_89]) rfl) <| jA (jS (v := mv x_87 m_88) rfl rfl) <| jA (jS (v := iv n_89) rfl rfl) ?_
        refine jH rfl (jW 7 x_87 m_88 rfl rfl rfl rfl) ?_
        rintro _ _ rfl
        refine jA (jZ fo37_0 rfl) ?_
        refine jH rfl (jc 3 (vs := [iv n_89]) (cs' := [iv n_89, iv 0, str []]) rfl rfl rfl rfl kf rfl rfl (lb rfl) rfl) ?_
        rintro _ _ rfl
        refine jE <| jk <| jB <| jD <| jq [bk b_16 37 [iv n_89, iv 0, str []], mb b_1 x_87 m_88] 3 mixed (by simp) <| jl 0 rfl (jP 1 x_87 m_88 rfl rfl) <| jl 1 rfl (jf 0 (vs := [iv n_89, iv 0, str []]) rfl rfl kX kV rfl rfl) <| jL (i := 2) ?_
        refine jO rfl rfl (jW 5 x_87 m_88 rfl rfl rfl rfl) ?_
        rintro _ _ rfl
        refine ⟨(by simp), ?_⟩
        refine jL (i := 3) ?_
        refine jp rfl (jc 4 (vs := [iv n_89, iv 0, str []]) (cs' := [iv n_89, iv 0, str []]) rfl rfl rfl rfl kV rfl rfl (lb rfl) rfl) ?_
        rintro _ _ rfl
        refine jB <| jM <| jj (.inl rfl) rfl (je (jP 5 x_87 m_88 rfl rfl) ⟨_, rfl⟩) (je (jf 4 (vs := [iv n_89, iv 0, str []]) rfl rfl kX kV rfl rfl) ⟨_, rfl⟩) (tS 3 _) ?_
        exact ⟨x_87, m_88, (⟨n_89, 0, []⟩ : AN), (by simp only [MS.doCall, MS.doKind, *, SB]; (repeat (first | rw [if_pos (by omega)] | rw [if_neg (by omega)])); all_goals (first | rfl | simp only [SB, *])), (k_86.mono (by omega) (by omega)), (by (try dsimp only); (try simp only [List.length_nil]); omega), rfl, rfl⟩
      refine jQ (cB (dF h_84)) <| jD <| jF <| jA (ju rfl rfl) <| jA (jG (v := .bool (decide (c.kind = 11))) rfl) <| jE <| jB ?_
      by_cases h_91 : c.kind = 11
      · refine jR (cB (dT h_91)) <| jF <| jT (jP 7 x_7 m_8 rfl rfl) <| jA (jZ fo41_3 rfl) <| jT (ji 6 (v := iv c.a) rfl rfl kh rfl) ?_
        refine jH rfl (jI [1, 1, 1] Tryz.call40 rfl (M_takePipe x_7 m_8 k_6 (by omega) (by omega) c.a (by omega)) rfl (fun _ _ => trivial)) ?_
        rintro _ _ ⟨_, ⟨x_94, m_95, u_96, n_98, e_92, k_93, f_97, f_99, rfl, rfl⟩, rfl⟩
        refine jA (jC (v := .tuple #[mv x_94 m_95, str u_96, iv n_98]) rfl) <| jA (jS (v := mv x_94 m_95) rfl rfl) <| jA (jS (v := str u_96) rfl rfl) <| jA (jS (v := iv n_98) rfl rfl) ?_
        refine jH rfl (jW 7 x_94 m_95 rfl rfl rfl rfl) ?_
        rintro _ _ rfl
        refine jA (jZ fo37_2 rfl) ?_
        refine jH rfl (jc 3 (vs := [str u_96]) (cs' := [iv 0, iv 0, str u_96]) rfl rfl rfl rfl ka rfl rfl (lb rfl) rfl) ?_
        rintro _ _ rfl
        refine jA (jZ fo37_0 rfl) ?_
        refine jH rfl (jc 3 (vs := [iv n_98]) (cs' := [iv n_98, iv 0, str u_96]) rfl rfl rfl rfl kf rfl rfl (lb rfl) rfl) ?_
        rintro _ _ rfl
        refine jE <| jk <| jB <| jD <| jq [bk b_16 37 [iv n_98, iv 0, str u_96], mb b_1 x_94 m_95] 3 mixed (by simp) <| jl 0 rfl (jP 1 x_94 m_95 rfl rfl) <| jl 1 rfl (jf 0 (vs := [iv n_98, iv 0, str u_96]) rfl rfl kX kV rfl rfl) <| jL (i := 2) ?_
        refine jO rfl rfl (jW 5 x_94 m_95 rfl rfl rfl rfl) ?_
        rintro _ _ rfl
        refine ⟨(by simp), ?_⟩
        refine jL (i := 3) ?_
        refine jp rfl (jc 4 (vs := [iv n_98, iv 0, str u_96]) (cs' := [iv n_98, iv 0, str u_96]) rfl rfl rfl rfl kV rfl rfl (lb rfl) rfl) ?_
        rintro _ _ rfl
        refine jB <| jM <| jj (.inl rfl) rfl (je (jP 5 x_94 m_95 rfl rfl) ⟨_, rfl⟩) (je (jf 4 (vs := [iv n_98, iv 0, str u_96]) rfl rfl kX kV rfl rfl) ⟨_, rfl⟩) (tS 3 _) ?_
        exact ⟨x_94, m_95, (⟨n_98, 0, u_96⟩ : AN), (by simp only [MS.doCall, MS.doKind, *, SB]; (repeat (first | rw [if_pos (by omega)] | rw [if_neg (by omega)])); all_goals (first | rfl | simp only [SB, *])), (k_93.mono (by omega) (by omega)), (by (try dsimp only); (try simp only [List.length_nil]); omega), rfl, rfl⟩
      refine jQ (cB (dF h_91)) <| jD <| jF <| jA (ju rfl rfl) <| jA (jG (v := .bool (decide (c.kind = 16))) rfl) <| jE <| jB ?_
      by_cases h_100 : c.kind = 16
      · refine jR (cB (dT h_100)) <| jF <| jT (jP 7 x_7 m_8 rfl rfl) <| jA (jZ fo41_3 rfl) <| jT (ji 6 (v := iv c.a) rfl rfl kh rfl) <| jA (jZ fo41_4 rfl) <| jT (ji 6 (v := iv c.b) rfl rfl kh rfl) ?_
        refine jH rfl (jI [1, 1, 1] Tryz.call41 rfl (M_send x_7 m_8 k_6 (by omega) (by omega) c.a c.b (by omega) (by omega)) rfl (fun _ _ => trivial)) ?_
        rintro _ _ ⟨_, ⟨x_103, m_104, n_105, e_101, k_102, f_106, rfl, rfl⟩, rfl⟩
        refine jA (jC (v := .tuple #[mv x_103 m_104, iv n_105]) rfl) <| jA (jS (v := mv x_103 m_104) rfl rfl) <| jA (jS (v := iv n_105) rfl rfl) ?_
        refine jH rfl (jW 7 x_103 m_104 rfl rfl rfl rfl) ?_
        rintro _ _ rfl
        refine jA (jZ fo37_0 rfl) ?_
        refine jH rfl (jc 3 (vs := [iv n_105]) (cs' := [iv n_105, iv 0, str []]) rfl rfl rfl rfl kf rfl rfl (lb rfl) rfl) ?_
        rintro _ _ rfl
        refine jE <| jk <| jB <| jD <| jq [bk b_16 37 [iv n_105, iv 0, str []], mb b_1 x_103 m_104] 3 mixed (by simp) <| jl 0 rfl (jP 1 x_103 m_104 rfl rfl) <| jl 1 rfl (jf 0 (vs := [iv n_105, iv 0, str []]) rfl rfl kX kV rfl rfl) <| jL (i := 2) ?_
        refine jO rfl rfl (jW 5 x_103 m_104 rfl rfl rfl rfl) ?_
        rintro _ _ rfl
        refine ⟨(by simp), ?_⟩
        refine jL (i := 3) ?_
        refine jp rfl (jc 4 (vs := [iv n_105, iv 0, str []]) (cs' := [iv n_105, iv 0, str []]) rfl rfl rfl rfl kV rfl rfl (lb rfl) rfl) ?_
        rintro _ _ rfl
        refine jB <| jM <| jj (.inl rfl) rfl (je (jP 5 x_103 m_104 rfl rfl) ⟨_, rfl⟩) (je (jf 4 (vs := [iv n_105, iv 0, str []]) rfl rfl kX kV rfl rfl) ⟨_, rfl⟩) (tS 3 _) ?_
        exact ⟨x_103, m_104, (⟨n_105, 0, []⟩ : AN), (by simp only [MS.doCall, MS.doKind, *, SB]; (repeat (first | rw [if_pos (by omega)] | rw [if_neg (by omega)])); all_goals (first | rfl | simp only [SB, *])), (k_102.mono (by omega) (by omega)), (by (try dsimp only); (try simp only [List.length_nil]); omega), rfl, rfl⟩
      refine jQ (cB (dF h_100)) <| jD <| jF <| jA (ju rfl rfl) <| jA (jG (v := .bool (decide (c.kind = 17))) rfl) <| jE <| jB ?_
      by_cases h_107 : c.kind = 17
      · refine jR (cB (dT h_107)) <| jF <| jT (jP 7 x_7 m_8 rfl rfl) <| jA (jC (v := iv proc) rfl) ?_
        refine jH rfl (jI [1, 1, 1] Tryz.call42 rfl (M_takeSignal x_7 m_8 k_6 (by omega) (by omega) proc (by omega)) rfl (fun _ _ => trivial)) ?_
        rintro _ _ ⟨_, ⟨x_110, m_111, n_112, n_114, e_108, k_109, f_113, f_115, rfl, rfl⟩, rfl⟩
        refine jA (jC (v := .tuple #[mv x_110 m_111, iv n_112, iv n_114]) rfl) <| jA (jS (v := mv x_110 m_111) rfl rfl) <| jA (jS (v := iv n_112) rfl rfl) <| jA (jS (v := iv n_114) rfl rfl) ?_
        refine jH rfl (jW 7 x_110 m_111 rfl rfl rfl rfl) ?_
        rintro _ _ rfl
        refine jA (jZ fo37_1 rfl) ?_
        refine jH rfl (jc 3 (vs := [iv n_112]) (cs' := [iv 0, iv n_112, str []]) rfl rfl rfl rfl kf rfl rfl (lb rfl) rfl) ?_
        rintro _ _ rfl
        refine jA (jZ fo37_0 rfl) ?_
        refine jH rfl (jc 3 (vs := [iv n_114]) (cs' := [iv n_114, iv n_112, str []]) rfl rfl rfl rfl kf rfl rfl (lb rfl) rfl) ?_
        rintro _ _ rfl
        refine jE <| jk <| jB <| jD <| jq [bk b_16 37 [iv n_114, iv n_112, str []], mb b_1 x_110 m_111] 3 mixed (by simp) <| jl 0 rfl (jP 1 x_110 m_111 rfl rfl) <| jl 1 rfl (jf 0 (vs := [iv n_114, iv n_112, str []]) rfl rfl kX kV rfl rfl) <| jL (i := 2) ?_
        refine jO rfl rfl (jW 5 x_110 m_111 rfl rfl rfl rfl) ?_
        rintro _ _ rfl
        refine ⟨(by simp), ?_⟩
        refine jL (i := 3) ?_
        refine jp rfl (jc 4 (vs := [iv n_114, iv n_112, str []]) (cs' := [iv n_114, iv n_112, str []]) rfl rfl rfl rfl kV rfl rfl (lb rfl) rfl) ?_
        rintro _ _ rfl
        refine jB <| jM <| jj (.inl rfl) rfl (je (jP 5 x_110 m_111 rfl rfl) ⟨_, rfl⟩) (je (jf 4 (vs := [iv n_114, iv n_112, str []]) rfl rfl kX kV rfl rfl) ⟨_, rfl⟩) (tS 3 _) ?_
        exact ⟨x_110, m_111, (⟨n_114, n_112, []⟩ : AN), (by simp only [MS.doCall, MS.doKind, *, SB]; (repeat (first | rw [if_pos (by omega)] | rw [if_neg (by omega)])); all_goals (first | rfl | simp only [SB, *])), (k_109.mono (by omega) (by omega)), (by (try dsimp only); (try simp only [List.length_nil]); omega), rfl, rfl⟩
      refine jQ (cB (dF h_107)) <| jD <| jF <| jA (ju rfl rfl) <| jA (jG (v := .bool (decide (c.kind = 18))) rfl) <| jE <| jB ?_
      by_cases h_116 : c.kind = 18
      · refine jR (cB (dT h_116)) <| jF <| jT (jP 7 x_7 m_8 rfl rfl) <| jA (jC (v := iv proc) rfl) <| jA (jZ fo41_3 rfl) <| jT (ji 6 (v := iv c.a) rfl rfl kh rfl) ?_
        refine jH rfl (jI [1, 1, 1] Tryz.call43 rfl (M_setTimer x_7 m_8 k_6 (by omega) (by omega) proc c.a (by omega) (by omega)) rfl (fun _ _ => trivial)) ?_
        rintro _ _ ⟨_, ⟨x_119, m_120, n_121, e_117, k_118, f_122, rfl, rfl⟩, rfl⟩
        refine jA (jC (v := .tuple #[mv x_119 m_120, iv n_121]) rfl) <| jA (jS (v := mv x_119 m_120) rfl rfl) <| jA (jS (v := iv n_121) rfl rfl) ?_
        refine jH rfl (jW 7 x_119 m_120 rfl rfl rfl rfl) ?_
        rintro _ _ rfl
        refine jA (jZ fo37_0 rfl) ?_
        refine jH rfl (jc 3 (vs := [iv n_121]) (cs' := [iv n_121, iv 0, str []]) rfl rfl rfl rfl kf rfl rfl (lb rfl) rfl) ?_
        rintro _ _ rfl
        refine jE <| jk <| jB <| jD <| jq [bk b_16 37 [iv n_121, iv 0, str []], mb b_1 x_119 m_120] 3 mixed (by simp) <| jl 0 rfl (jP 1 x_119 m_120 rfl rfl) <| jl 1 rfl (jf 0 (vs := [iv n_121, iv 0, str []]) rfl rfl kX kV rfl rfl) <| jL (i := 2) ?_
        refine jO rfl rfl (jW 5 x_119 m_120 rfl rfl rfl rfl) ?_
        rintro _ _ rfl
        refine ⟨(by simp), ?_⟩
        refine jL (i := 3) ?_
        refine jp rfl (jc 4 (vs := [iv n_121, iv 0, str []]) (cs' := [iv n_121, iv 0, str []]) rfl rfl rfl rfl kV rfl rfl (lb rfl) rfl) ?_
        rintro _ _ rfl
        refine jB <| jM <| jj (.inl rfl) rfl (je (jP 5 x_119 m_120 rfl rfl) ⟨_, rfl⟩) (je (jf 4 (vs := [iv n_121, iv 0, str []]) rfl rfl kX kV rfl rfl) ⟨_, rfl⟩) (tS 3 _) ?_
        exact ⟨x_119, m_120, (⟨n_121, 0, []⟩ : AN), (by simp only [MS.doCall, MS.doKind, *, SB]; (repeat (first | rw [if_pos (by omega)] | rw [if_neg (by omega)])); all_goals (first | rfl | simp only [SB, *])), (k_118.mono (by omega) (by omega)), (by (try dsimp only); (try simp only [List.length_nil]); omega), rfl, rfl⟩
      refine jQ (cB (dF h_116)) <| jD <| jF <| jA (ju rfl rfl) <| jA (jG (v := .bool (decide (c.kind = 19))) rfl) <| jE <| jB ?_
      by_cases h_123 : c.kind = 19
      · refine jR (cB (dT h_123)) <| jF <| jT (jP 7 x_7 m_8 rfl rfl) <| jA (jZ fo41_3 rfl) <| jT (ji 6 (v := iv c.a) rfl rfl kh rfl) ?_
        refine jH rfl (jI [1, 1, 1] Tryz.call44 rfl (M_tick x_7 m_8 k_6 (by omega) (by omega) c.a (by omega)) rfl (fun _ _ => trivial)) ?_
        rintro _ _ ⟨_, ⟨x_126, m_127, n_128, n_130, e_124, k_125, f_129, f_131, rfl, rfl⟩, rfl⟩
        refine jA (jC (v := .tuple #[mv x_126 m_127, iv n_128, iv n_130]) rfl) <| jA (jS (v := mv x_126 m_127) rfl rfl) <| jA (jS (v := iv n_128) rfl rfl) <| jA (jS (v := iv n_130) rfl rfl) ?_
        refine jH rfl (jW 7 x_126 m_127 rfl rfl rfl rfl) ?_
        rintro _ _ rfl
        refine jA (jZ fo37_1 rfl) ?_
        refine jH rfl (jc 3 (vs := [iv n_128]) (cs' := [iv 0, iv n_128, str []]) rfl rfl rfl rfl kf rfl rfl (lb rfl) rfl) ?_
        rintro _ _ rfl
        refine jA (jZ fo37_0 rfl) ?_
        refine jH rfl (jc 3 (vs := [iv n_130]) (cs' := [iv n_130, iv n_128, str []]) rfl rfl rfl rfl kf rfl rfl (lb rfl) rfl) ?_
        rintro _ _ rfl
        refine jE <| jk <| jB <| jD <| jq [bk b_16 37 [iv n_130, iv n_128, str []], mb b_1 x_126 m_127] 3 mixed (by simp) <| jl 0 rfl (jP 1 x_126 m_127 rfl rfl) <| jl 1 rfl (jf 0 (vs := [iv n_130, iv n_128, str []]) rfl rfl kX kV rfl rfl) <| jL (i := 2) ?_
        refine jO rfl rfl (jW 5 x_126 m_127 rfl rfl rfl rfl) ?_
        rintro _ _ rfl
        refine ⟨(by simp), ?_⟩
        refine jL (i := 3) ?_
        refine jp rfl (jc 4 (vs := [iv n_130, iv n_128, str []]) (cs' := [iv n_130, iv n_128, str []]) rfl rfl rfl rfl kV rfl rfl (lb rfl) rfl) ?_
        rintro _ _ rfl
        refine jB <| jM <| jj (.inl rfl) rfl (je (jP 5 x_126 m_127 rfl rfl) ⟨_, rfl⟩) (je (jf 4 (vs := [iv n_130, iv n_128, str []]) rfl rfl kX kV rfl rfl) ⟨_, rfl⟩) (tS 3 _) ?_
        exact ⟨x_126, m_127, (⟨n_130, n_128, []⟩ : AN), (by simp only [MS.doCall, MS.doKind, *, SB]; (repeat (first | rw [if_pos (by omega)] | rw [if_neg (by omega)])); all_goals (first | rfl | simp only [SB, *])), (k_125.mono (by omega) (by omega)), (by (try dsimp only); (try simp only [List.length_nil]); omega), rfl, rfl⟩
      refine jQ (cB (dF h_123)) <| jD <| jF <| jA (ju rfl rfl) <| jA (jG (v := .bool (decide (c.kind = 20))) rfl) <| jE <| jB ?_
      by_cases h_132 : c.kind = 20
      · refine jR (cB (dT h_132)) <| jF <| jT (jP 7 x_7 m_8 rfl rfl) <| jA (jC (v := iv proc) rfl) <| jA (jZ fo41_3 rfl) <| jT (ji 6 (v := iv c.a) rfl rfl kh rfl) <| jA (jZ fo41_5 rfl) <| jT (ji 6 (v := str c.text) rfl rfl kZ rfl) ?_
        refine jH rfl (jI [1, 1, 1] Tryz.call45 rfl (M_storePage x_7 m_8 k_6 (by omega) (by omega) proc c.a c.text (by omega) (by omega) (by omega)) rfl (fun _ _ => trivial)) ?_
        rintro _ _ ⟨_, ⟨x_135, m_136, n_137, e_133, k_134, f_138, rfl, rfl⟩, rfl⟩
        refine jA (jC (v := .tuple #[mv x_135 m_136, iv n_137]) rfl) <| jA (jS (v := mv x_135 m_136) rfl rfl) <| jA (jS (v := iv n_137) rfl rfl) ?_
        refine jH rfl (jW 7 x_135 m_136 rfl rfl rfl rfl) ?_
        rintro _ _ rfl
        refine jA (jZ fo37_0 rfl) ?_
        refine jH rfl (jc 3 (vs := [iv n_137]) (cs' := [iv n_137, iv 0, str []]) rfl rfl rfl rfl kf rfl rfl (lb rfl) rfl) ?_
        rintro _ _ rfl
        refine jE <| jk <| jB <| jD <| jq [bk b_16 37 [iv n_137, iv 0, str []], mb b_1 x_135 m_136] 3 mixed (by simp) <| jl 0 rfl (jP 1 x_135 m_136 rfl rfl) <| jl 1 rfl (jf 0 (vs := [iv n_137, iv 0, str []]) rfl rfl kX kV rfl rfl) <| jL (i := 2) ?_
        refine jO rfl rfl (jW 5 x_135 m_136 rfl rfl rfl rfl) ?_
        rintro _ _ rfl
        refine ⟨(by simp), ?_⟩
        refine jL (i := 3) ?_
        refine jp rfl (jc 4 (vs := [iv n_137, iv 0, str []]) (cs' := [iv n_137, iv 0, str []]) rfl rfl rfl rfl kV rfl rfl (lb rfl) rfl) ?_
        rintro _ _ rfl
        refine jB <| jM <| jj (.inl rfl) rfl (je (jP 5 x_135 m_136 rfl rfl) ⟨_, rfl⟩) (je (jf 4 (vs := [iv n_137, iv 0, str []]) rfl rfl kX kV rfl rfl) ⟨_, rfl⟩) (tS 3 _) ?_
        exact ⟨x_135, m_136, (⟨n_137, 0, []⟩ : AN), (by simp only [MS.doCall, MS.doKind, *, SB]; (repeat (first | rw [if_pos (by omega)] | rw [if_neg (by omega)])); all_goals (first | rfl | simp only [SB, *])), (k_134.mono (by omega) (by omega)), (by (try dsimp only); (try simp only [List.length_nil]); omega), rfl, rfl⟩
      refine jQ (cB (dF h_132)) <| jD <| jF <| jA (ju rfl rfl) <| jA (jG (v := .bool (decide (c.kind = 21))) rfl) <| jE <| jB ?_
      by_cases h_139 : c.kind = 21
      · refine jR (cB (dT h_139)) <| jF <| jT (jP 7 x_7 m_8 rfl rfl) <| jA (jC (v := iv proc) rfl) <| jA (jZ fo41_3 rfl) <| jT (ji 6 (v := iv c.a) rfl rfl kh rfl) ?_
        refine jH rfl (jI [1, 1, 1] Tryz.call46 rfl (M_loadPage x_7 m_8 k_6 (by omega) (by omega) proc c.a (by omega) (by omega)) rfl (fun _ _ => trivial)) ?_
        rintro _ _ ⟨_, ⟨x_142, m_143, u_144, n_146, e_140, k_141, f_145, f_147, rfl, rfl⟩, rfl⟩
        refine jA (jC (v := .tuple #[mv x_142 m_143, str u_144, iv n_146]) rfl) <| jA (jS (v := mv x_142 m_143) rfl rfl) <| jA (jS (v := str u_144) rfl rfl) <| jA (jS (v := iv n_146) rfl rfl) ?_
        refine jH rfl (jW 7 x_142 m_143 rfl rfl rfl rfl) ?_
        rintro _ _ rfl
        refine jA (jZ fo37_2 rfl) ?_
        refine jH rfl (jc 3 (vs := [str u_144]) (cs' := [iv 0, iv 0, str u_144]) rfl rfl rfl rfl ka rfl rfl (lb rfl) rfl) ?_
        rintro _ _ rfl
        refine jA (jZ fo37_0 rfl) ?_
        refine jH rfl (jc 3 (vs := [iv n_146]) (cs' := [iv n_146, iv 0, str u_144]) rfl rfl rfl rfl kf rfl rfl (lb rfl) rfl) ?_
        rintro _ _ rfl
        refine jE <| jk <| jB <| jD <| jq [bk b_16 37 [iv n_146, iv 0, str u_144], mb b_1 x_142 m_143] 3 mixed (by simp) <| jl 0 rfl (jP 1 x_142 m_143 rfl rfl) <| jl 1 rfl (jf 0 (vs := [iv n_146, iv 0, str u_144]) rfl rfl kX kV rfl rfl) <| jL (i := 2) ?_
        refine jO rfl rfl (jW 5 x_142 m_143 rfl rfl rfl rfl) ?_
        rintro _ _ rfl
        refine ⟨(by simp), ?_⟩
        refine jL (i := 3) ?_
        refine jp rfl (jc 4 (vs := [iv n_146, iv 0, str u_144]) (cs' := [iv n_146, iv 0, str u_144]) rfl rfl rfl rfl kV rfl rfl (lb rfl) rfl) ?_
        rintro _ _ rfl
        refine jB <| jM <| jj (.inl rfl) rfl (je (jP 5 x_142 m_143 rfl rfl) ⟨_, rfl⟩) (je (jf 4 (vs := [iv n_146, iv 0, str u_144]) rfl rfl kX kV rfl rfl) ⟨_, rfl⟩) (tS 3 _) ?_
        exact ⟨x_142, m_143, (⟨n_146, 0, u_144⟩ : AN), (by simp only [MS.doCall, MS.doKind, *, SB]; (repeat (first | rw [if_pos (by omega)] | rw [if_neg (by omega)])); all_goals (first | rfl | simp only [SB, *])), (k_141.mono (by omega) (by omega)), (by (try dsimp only); (try simp only [List.length_nil]); omega), rfl, rfl⟩
      refine jQ (cB (dF h_139)) <| jD <| jF <| jA (ju rfl rfl) <| jA (jG (v := .bool (decide (c.kind = 22))) rfl) <| jE <| jB ?_
      by_cases h_148 : c.kind = 22
      · refine jR (cB (dT h_148)) <| jF <| jT (jP 7 x_7 m_8 rfl rfl) <| jA (jZ fo41_5 rfl) <| jT (ji 6 (v := str c.text) rfl rfl kZ rfl) ?_
        refine jH rfl (jI [1, 1, 1] Tryz.call47 rfl (M_putOut x_7 m_8 k_6 (by omega) (by omega) c.text (by omega)) rfl (fun _ _ => trivial)) ?_
        rintro _ _ ⟨_, ⟨x_151, m_152, n_153, e_149, k_150, f_154, rfl, rfl⟩, rfl⟩
        refine jA (jC (v := .tuple #[mv x_151 m_152, iv n_153]) rfl) <| jA (jS (v := mv x_151 m_152) rfl rfl) <| jA (jS (v := iv n_153) rfl rfl) ?_
        refine jH rfl (jW 7 x_151 m_152 rfl rfl rfl rfl) ?_
        rintro _ _ rfl
        refine jA (jZ fo37_0 rfl) ?_
        refine jH rfl (jc 3 (vs := [iv n_153]) (cs' := [iv n_153, iv 0, str []]) rfl rfl rfl rfl kf rfl rfl (lb rfl) rfl) ?_
        rintro _ _ rfl
        refine jE <| jk <| jB <| jD <| jq [bk b_16 37 [iv n_153, iv 0, str []], mb b_1 x_151 m_152] 3 mixed (by simp) <| jl 0 rfl (jP 1 x_151 m_152 rfl rfl) <| jl 1 rfl (jf 0 (vs := [iv n_153, iv 0, str []]) rfl rfl kX kV rfl rfl) <| jL (i := 2) ?_
        refine jO rfl rfl (jW 5 x_151 m_152 rfl rfl rfl rfl) ?_
        rintro _ _ rfl
        refine ⟨(by simp), ?_⟩
        refine jL (i := 3) ?_
        refine jp rfl (jc 4 (vs := [iv n_153, iv 0, str []]) (cs' := [iv n_153, iv 0, str []]) rfl rfl rfl rfl kV rfl rfl (lb rfl) rfl) ?_
        rintro _ _ rfl
        refine jB <| jM <| jj (.inl rfl) rfl (je (jP 5 x_151 m_152 rfl rfl) ⟨_, rfl⟩) (je (jf 4 (vs := [iv n_153, iv 0, str []]) rfl rfl kX kV rfl rfl) ⟨_, rfl⟩) (tS 3 _) ?_
        exact ⟨x_151, m_152, (⟨n_153, 0, []⟩ : AN), (by simp only [MS.doCall, MS.doKind, *, SB]; (repeat (first | rw [if_pos (by omega)] | rw [if_neg (by omega)])); all_goals (first | rfl | simp only [SB, *])), (k_150.mono (by omega) (by omega)), (by (try dsimp only); (try simp only [List.length_nil]); omega), rfl, rfl⟩
      refine jQ (cB (dF h_148)) <| jD <| jF <| jT (jP 7 x_7 m_8 rfl rfl) <| jA (jC (v := iv proc) rfl) <| jT (jf 6 (vs := [iv c.kind, str c.name, str c.to_, iv c.a, iv c.b, str c.text]) rfl rfl kx kv rfl rfl) ?_
      refine jH rfl (jI [1, 1, 1] Tryz.call48 rfl (M_doProc x_7 m_8 k_6 (by omega) (by omega) proc c (by omega) hc) rfl (fun _ _ => trivial)) ?_
      rintro _ _ ⟨_, ⟨x_157, m_158, A_159, e_155, k_156, f_160, rfl, rfl⟩, rfl⟩
      refine jA (jS (v := mv x_157 m_158) rfl rfl) <| jA (jS (v := .agg #[iv A_159.code, iv A_159.n, str A_159.text]) rfl rfl) ?_
      refine jH rfl (jW 5 x_157 m_158 rfl rfl rfl rfl) ?_
      rintro _ _ rfl
      refine jH rfl (jc 4 (vs := [iv A_159.code, iv A_159.n, str A_159.text]) (cs' := [iv A_159.code, iv A_159.n, str A_159.text]) rfl rfl rfl rfl kV rfl rfl (lb rfl) rfl) ?_
      rintro _ _ rfl
      refine jE <| jB <| jM <| jz <| jX <| jj (.inl rfl) rfl (je (jP 5 x_157 m_158 rfl rfl) ⟨_, rfl⟩) (je (jf 4 (vs := [iv A_159.code, iv A_159.n, str A_159.text]) rfl rfl kX kV rfl rfl) ⟨_, rfl⟩) (tS 3 _) ?_
      exact ⟨x_157, m_158, A_159, (by simp only [MS.doCall, MS.doKind, *, SB]; (repeat (first | rw [if_pos (by omega)] | rw [if_neg (by omega)])); all_goals (first | rfl | simp only [SB, *])), (k_156.mono (by omega) (by omega)), (by (try dsimp only); (try simp only [List.length_nil]); omega), rfl, rfl⟩
    refine jR (cB (cN h_15)) <| jD <| jF <| jT (jP 6 x_7 m_8 rfl rfl) <| jA (kP (ps := [(0, iv 4)]) (cs := [iv 4, iv 0, str []]) rfl (by kernel_rfl)) ?_
    refine jH rfl (jW 4 x_7 m_8 rfl rfl rfl rfl) ?_
    rintro _ _ rfl
    refine jH rfl (jc 3 (vs := [iv 4, iv 0, str []]) (cs' := [iv 4, iv 0, str []]) rfl rfl rfl rfl kV rfl rfl (lb rfl) rfl) ?_
    rintro _ _ rfl
    refine jE <| jB <| jM <| jX <| jj (.inl rfl) rfl (je (jP 4 x_7 m_8 rfl rfl) ⟨_, rfl⟩) (je (jf 3 (vs := [iv 4, iv 0, str []]) rfl rfl kX kV rfl rfl) ⟨_, rfl⟩) (tS 3 _) ?_
    exact ⟨x_7, m_8, (⟨4, 0, []⟩ : AN), (by simp only [MS.doCall, MS.doKind, e_5, h_11, e_12, h_15, SB]; (repeat (first | rw [if_pos (by omega)] | rw [if_neg (by omega)])); all_goals (first | rfl | simp only [SB, e_5, h_11, e_12, h_15])), (k_6.mono (by omega) (by omega)), (by (try dsimp only); (try simp only [List.length_nil]); omega), rfl, rfl⟩
  refine jR (cB (cN (dF h_11))) <| jD <| jF <| jT (jP 6 x_7 m_8 rfl rfl) <| jA (kP (ps := [(0, iv 2)]) (cs := [iv 2, iv 0, str []]) rfl (by kernel_rfl)) ?_
  refine jH rfl (jW 4 x_7 m_8 rfl rfl rfl rfl) ?_
  rintro _ _ rfl
  refine jH rfl (jc 3 (vs := [iv 2, iv 0, str []]) (cs' := [iv 2, iv 0, str []]) rfl rfl rfl rfl kV rfl rfl (lb rfl) rfl) ?_
  rintro _ _ rfl
  refine jE <| jB <| jM <| jX <| jj (.inl rfl) rfl (je (jP 4 x_7 m_8 rfl rfl) ⟨_, rfl⟩) (je (jf 3 (vs := [iv 2, iv 0, str []]) rfl rfl kX kV rfl rfl) ⟨_, rfl⟩) (tS 3 _) ?_
  exact ⟨x_7, m_8, (⟨2, 0, []⟩ : AN), (by simp only [MS.doCall, MS.doKind, e_5, h_11, SB]; (repeat (first | rw [if_pos (by omega)] | rw [if_neg (by omega)])); all_goals (first | rfl | simp only [SB, e_5, h_11])), (k_6.mono (by omega) (by omega)), (by (try dsimp only); (try simp only [List.length_nil]); omega), rfl, rfl⟩

theorem P_do (x : MA) (m : MS) {S T : Nat} (hk : m.ok S T) (hS : S ≤ 1099000) (hT : T ≤ 1099000) (proc : Int) (c : CL) (hproc : -9223372036854775808 ≤ proc ∧ proc ≤ 9223372036854775807) (hc : c.ok 1048576) :
    Ct Tryz.prog 9 [mv x m, .int .i64 proc, .agg #[.int .i64 c.kind, str c.name, str c.to_, .int .i64 c.a, .int .i64 c.b, str c.text]] ([]) (fun w => seesM w x m ∧ HexOk w) (fun v A' => ∃ x' m' r0, MS.doCall m proc c = (m', r0) ∧ m'.ok (3 * S + 20) (T + 7 * S + 200) ∧ ((0 ≤ r0.code ∧ r0.code ≤ 9) ∧ (-1 ≤ r0.n ∧ r0.n ≤ 1000000000) ∧ r0.text.length ≤ 2000000000000) ∧ v = .tuple #[mv x' m', .agg #[.int .i64 r0.code, .int .i64 r0.n, str r0.text]] ∧ A' = mr x' m') := by
  refine Ct.introL Tryz.func9 rfl Tryz.ntmps9 (lb rfl) fun w0 hpre hlow => ?_
  have hs_x_a0 : Sees w0 _ _ _ _ := hpre.1.1
  have hs_x_a1 : Sees w0 _ _ _ _ := hpre.1.2.1
  have hs_x_a2 : Sees w0 _ _ _ _ := hpre.1.2.2
  obtain ⟨hc1, hc2, hc3, hc4, hc5, hc6⟩ := id hc
  refine jD <| jF ?_
  refine jH rfl (jv (cs := (mc x m)) rfl rfl) ?_
  rintro _ _ ⟨b_1, rfl, rfl⟩
  refine jH rfl (jv (cs := [iv c.kind, str c.name, str c.to_, iv c.a, iv c.b, str c.text]) rfl rfl) ?_
  rintro _ _ ⟨b_2, rfl, rfl⟩
  refine jH rfl (jh (z := zM) (cs := zC) kd rfl) ?_
  rintro _ _ ⟨b_3, rfl, rfl⟩
  refine jH rfl (jh (z := .agg #[iv 0, iv 0, str []]) (cs := [iv 0, iv 0, str []]) kg rfl) ?_
  rintro _ _ ⟨b_4, rfl, rfl⟩
  refine jE <| jB <| jD <| jF <| jT (jP 3 x m rfl rfl) ?_
  refine jH rfl (jI [] Tryz.call20 rfl (N_clone x m hk (by omega) (by omega)) rfl (fun w hw => ⟨hw.seeOut_ hs_x_a0 nM, hw.seeOut_ hs_x_a1 nM, hw.seeOut_ hs_x_a2 nM⟩)) ?_
  rintro _ _ ⟨_, ⟨x_7, m_8, rfl, k_6, rfl, rfl⟩, rfl⟩
  refine jH rfl (jW 6 x_7 m rfl rfl rfl rfl) ?_
  rintro _ _ rfl
  refine jE <| jB <| jD <| jF <| jA (jC (v := iv proc) rfl) <| jT (jf 5 (vs := [iv c.kind, str c.name, str c.to_, iv c.a, iv c.b, str c.text]) rfl rfl kx kv rfl rfl) ?_
  refine jH rfl (jI [6, 0, 0, 0] Tryz.call21 rfl (N_do b_1 x_7 m k_6 (by omega) (by omega) proc c (by omega) hc) rfl (fun w hw => hw.hex hlow hpre.2)) ?_
  rintro _ _ ⟨_, ⟨x_11, m_12, A_13, e_9, k_10, f_14, rfl, rfl⟩, rfl⟩
  refine jH rfl (jh (z := .agg #[iv 0, iv 0, str []]) (cs := [iv 0, iv 0, str []]) kg rfl) ?_
  rintro _ _ ⟨b_15, rfl, rfl⟩
  refine jH rfl (jc 0 (vs := [iv A_13.code, iv A_13.n, str A_13.text]) (cs' := [iv A_13.code, iv A_13.n, str A_13.text]) rfl rfl rfl rfl kV rfl rfl (lb rfl) rfl) ?_
  rintro _ _ rfl
  refine jE <| jB <| jD <| jq [bk b_15 37 [iv A_13.code, iv A_13.n, str A_13.text], mb b_1 x_11 m_12] 3 mixed (by simp) <| jl 0 rfl (jP 1 x_11 m_12 rfl rfl) <| jl 1 rfl (jf 0 (vs := [iv A_13.code, iv A_13.n, str A_13.text]) rfl rfl kX kV rfl rfl) <| jL (i := 2) ?_
  refine jO rfl rfl (jW 6 x_11 m_12 rfl rfl rfl rfl) ?_
  rintro _ _ rfl
  refine ⟨(by simp), ?_⟩
  refine jL (i := 3) ?_
  refine jp rfl (jc 5 (vs := [iv A_13.code, iv A_13.n, str A_13.text]) (cs' := [iv A_13.code, iv A_13.n, str A_13.text]) rfl rfl rfl rfl kV rfl rfl (lb rfl) rfl) ?_
  rintro _ _ rfl
  refine jB <| jM <| kL (pick_perm [2, 2, 2] (A := [rC x_11.a0 x_11.c0 m_12.s, rS x_11.a1 x_11.c1 m_12.r, rS x_11.a2 x_11.c2 m_12.w]) (F := [bk b_15 37 [iv A_13.code, iv A_13.n, str A_13.text], mb b_1 x_11 m_12, bk b_4 37 [iv A_13.code, iv A_13.n, str A_13.text], mb b_3 x_11 m_12, bk b_2 41 [iv c.kind, str c.name, str c.to_, iv c.a, iv c.b, str c.text]]) rfl).symm <| jj (.inl rfl) rfl (je (jP 6 x_11 m_12 rfl rfl) ⟨_, rfl⟩) (je (jf 5 (vs := [iv A_13.code, iv A_13.n, str A_13.text]) rfl rfl kX kV rfl rfl) ⟨_, rfl⟩) (tS 3 _) ?_
  exact ⟨x_11, m_12, A_13, (by simp only [if_true, e_9, SB]; (repeat (first | rw [if_pos (by omega)] | rw [if_neg (by omega)])); all_goals (first | rfl | simp only [SB, e_9])), (k_10.mono (by omega) (by omega)), (by (try dsimp only); (try simp only [List.length_nil]); omega), rfl, rfl⟩

theorem Q_do (x : MA) (m : MS) {S T : Nat} (hk : m.ok S T) (hS : S ≤ 1099000) (hT : T ≤ 1099000) (proc : Int) (c : CL) (hproc : -9223372036854775808 ≤ proc ∧ proc ≤ 9223372036854775807) (hc : c.ok 1048576) :
    Ct Tryz.prog 6 [mv x m, .int .i64 proc, .agg #[.int .i64 c.kind, str c.name, str c.to_, .int .i64 c.a, .int .i64 c.b, str c.text]] ([]) (fun w => seesM w x m) (fun v A' => ∃ x' m' r0, MS.doCall m proc c = (m', r0) ∧ m'.ok (3 * S + 20) (T + 7 * S + 200) ∧ ((0 ≤ r0.code ∧ r0.code ≤ 9) ∧ (-1 ≤ r0.n ∧ r0.n ≤ 1000000000) ∧ r0.text.length ≤ 2000000000000) ∧ v = .tuple #[mv x' m', .agg #[.int .i64 r0.code, .int .i64 r0.n, str r0.text]] ∧ A' = mr x' m') := by
  refine Ct.intro Tryz.func6 rfl Tryz.ntmps6 (lb rfl) fun w0 hpre => ?_
  have hs_x_a0 : Sees w0 _ _ _ _ := hpre.1
  have hs_x_a1 : Sees w0 _ _ _ _ := hpre.2.1
  have hs_x_a2 : Sees w0 _ _ _ _ := hpre.2.2
  obtain ⟨hc1, hc2, hc3, hc4, hc5, hc6⟩ := id hc
  refine jD <| jF ?_
  refine jH rfl (jv (cs := (mc x m)) rfl rfl) ?_
  rintro _ _ ⟨b_1, rfl, rfl⟩
  refine jH rfl (jv (cs := [iv c.kind, str c.name, str c.to_, iv c.a, iv c.b, str c.text]) rfl rfl) ?_
  rintro _ _ ⟨b_2, rfl, rfl⟩
  refine jH rfl (jh (z := zM) (cs := zC) kd rfl) ?_
  rintro _ _ ⟨b_3, rfl, rfl⟩
  refine jH rfl (jh (z := .agg #[iv 0, iv 0, str []]) (cs := [iv 0, iv 0, str []]) kg rfl) ?_
  rintro _ _ ⟨b_4, rfl, rfl⟩
  refine jE <| jB <| jD <| jq [bk b_2 41 [iv c.kind, str c.name, str c.to_, iv c.a, iv c.b, str c.text], mb b_1 x m] 7 mixed (by simp) <| jl 0 rfl (jP 1 x m rfl rfl) <| jK 2 rfl (jC (v := iv proc) rfl) <| jl 3 rfl (jf 0 (vs := [iv c.kind, str c.name, str c.to_, iv c.a, iv c.b, str c.text]) rfl rfl kx kv rfl rfl) <| jL (i := 1) ?_
  refine jO rfl rfl (jI [] Tryz.call17 rfl (N_copy x m hk (by omega) (by omega)) rfl (fun w hw => ⟨hw.seeOut_ hs_x_a0 nM, hw.seeOut_ hs_x_a1 nM, hw.seeOut_ hs_x_a2 nM⟩)) ?_
  rintro _ _ ⟨_, ⟨x_19, m_20, rfl, k_18, rfl, rfl⟩, rfl⟩
  refine ⟨(by simp), ?_⟩
  refine jL (i := 4) ?_
  refine jO rfl rfl (jI [0, 0, 0] Tryz.call16 rfl (M_do x_19 m k_18 (by omega) (by omega) proc c (by omega) hc) rfl (fun _ _ => trivial)) ?_
  rintro _ _ ⟨_, ⟨x_29, m_30, A_31, e_27, k_28, f_32, rfl, rfl⟩, rfl⟩
  refine ⟨(by simp), ?_⟩
  refine jK 5 rfl (jS (v := mv x_29 m_30) rfl rfl) <| jK 6 rfl (jS (v := .agg #[iv A_31.code, iv A_31.n, str A_31.text]) rfl rfl) <| jL (i := 7) ?_
  refine jo rfl (jW 4 x_29 m_30 rfl rfl rfl rfl) ?_
  rintro _ _ rfl
  refine jL (i := 8) ?_
  refine jp rfl (jc 3 (vs := [iv A_31.code, iv A_31.n, str A_31.text]) (cs' := [iv A_31.code, iv A_31.n, str A_31.text]) rfl rfl rfl rfl kV rfl rfl (lb rfl) rfl) ?_
  rintro _ _ rfl
  refine jB <| jM <| jj (.inl rfl) rfl (je (jP 4 x_29 m_30 rfl rfl) ⟨_, rfl⟩) (je (jf 3 (vs := [iv A_31.code, iv A_31.n, str A_31.text]) rfl rfl kX kV rfl rfl) ⟨_, rfl⟩) (tS 3 _) ?_
  exact ⟨x_29, m_30, A_31, (by simp only [if_true, e_27, SB]; (repeat (first | rw [if_pos (by omega)] | rw [if_neg (by omega)])); all_goals (first | rfl | simp only [SB, e_27])), (k_28.mono (by omega) (by omega)), (by (try dsimp only); (try simp only [List.length_nil]); omega), rfl, rfl⟩

end Go.Proofs.YthdgcbdfcclgbaaGreatDoor

set_option linter.unusedSimpArgs false
set_option linter.unusedVariables false
set_option linter.unnecessarySimpa false
namespace Go.Proofs.YthdgcbdfcclgbaaGreatDoor
open Go Go.RowKit
theorem szMach_le (m : MS) : szMach m 1048576 ≤ 1048576 := by
  unfold szMach
  split
  · omega
  · rename_i h1
    have hs := szCellS_le m.s 1048576 (by omega)
    split
    · omega
    · unfold szTouch
      split
      · omega
      · rename_i h3
        have hr := szStringS_le m.r (szCellS m.s 1048576) (by omega)
        split
        · omega
        · have hw := szStringS_le m.w (szStringS m.r (szCellS m.s 1048576)) (by omega)
          omega
attribute [local irreducible] JL JC JQ JO LO PO JA JX Ct

theorem N_szCall (c : CL) (left : Int) (hc : c.ok 9223372036854775807) (hleft : -9223372036854775808 ≤ left ∧ left ≤ 9223372036854775807) (hl0 : 0 ≤ left) :
    Ct Tryz.prog 5 [.agg #[.int .i64 c.kind, str c.name, str c.to_, .int .i64 c.a, .int .i64 c.b, str c.text], .int .i64 left] ([]) (fun _ => True) (fun v A' => ∃ r0, szCallF c left = r0 ∧ v = .int .i64 r0 ∧ A' = []) := by
  refine Ct.intro Tryz.func5 rfl Tryz.ntmps5 (lb rfl) fun w0 hpre => ?_
  obtain ⟨hc1, hc2, hc3, hc4, hc5, hc6⟩ := id hc
  refine jD <| jF ?_
  refine jH rfl (jv (cs := [iv c.kind, str c.name, str c.to_, iv c.a, iv c.b, str c.text]) rfl rfl) ?_
  rintro _ _ ⟨b_1, rfl, rfl⟩
  refine jA (jG (v := iv 0) rfl) <| jE <| jB <| jD <| jF <| jA (jC (v := iv left) rfl) <| jA (jZ fo29_1 rfl) <| jT (ji 0 (v := str c.name) rfl rfl kZ rfl) <| jA (kJ kY rfl) <| jA (kR (c := left - (c.name.length : Int)) rfl rfl (wr (by omega))) ?_
  refine jA (jG (v := iv (left - (c.name.length : Int))) rfl) <| jE <| jB <| jD <| jD <| jF <| jA (jC (v := iv (left - (c.name.length : Int))) rfl) <| jA (js rfl rfl) <| jE <| jB ?_
  by_cases h_2 : (left - (c.name.length : Int)) < 0
  · refine jR (cB (dT h_2)) <| jD <| jF <| jA (jG (v := iv (-1)) rfl) <| jE <| jB <| jM <| jX <| jV (.inl rfl) rfl (jN (v := iv (-1)) rfl) (List.nil_sublist _) ?_
    exact ⟨(-1), (by simp only [szCallF, h_2, SB]; (repeat (first | rw [if_pos (by omega)] | rw [if_neg (by omega)])); all_goals (first | rfl | simp only [SB, h_2])), rfl, rfl⟩
  refine jQ (cB (dF h_2)) <| jU <| jB <| jD <| jF <| jA (jC (v := iv (left - (c.name.length : Int))) rfl) <| jA (jZ fo29_2 rfl) <| jT (ji 0 (v := str c.to_) rfl rfl kZ rfl) <| jA (kJ kY rfl) <| jA (kR (c := (left - (c.name.length : Int)) - (c.to_.length : Int)) rfl rfl (wr (by omega))) ?_
  refine jA (jG (v := iv ((left - (c.name.length : Int)) - (c.to_.length : Int))) rfl) <| jE <| jB <| jD <| jD <| jF <| jA (jC (v := iv ((left - (c.name.length : Int)) - (c.to_.length : Int))) rfl) <| jA (js rfl rfl) <| jE <| jB ?_
  by_cases h_3 : ((left - (c.name.length : Int)) - (c.to_.length : Int)) < 0
  · refine jR (cB (dT h_3)) <| jD <| jF <| jA (jG (v := iv (-1)) rfl) <| jE <| jB <| jM <| jX <| jV (.inl rfl) rfl (jN (v := iv (-1)) rfl) (List.nil_sublist _) ?_
    exact ⟨(-1), (by simp only [szCallF, h_2, h_3, SB]; (repeat (first | rw [if_pos (by omega)] | rw [if_neg (by omega)])); all_goals (first | rfl | simp only [SB, h_2, h_3])), rfl, rfl⟩
  refine jQ (cB (dF h_3)) <| jU <| jB <| jD <| jF <| jA (jC (v := iv ((left - (c.name.length : Int)) - (c.to_.length : Int))) rfl) <| jA (jZ fo29_5 rfl) <| jT (ji 0 (v := str c.text) rfl rfl kZ rfl) <| jA (kJ kY rfl) <| jA (kR (c := ((left - (c.name.length : Int)) - (c.to_.length : Int)) - (c.text.length : Int)) rfl rfl (wr (by omega))) ?_
  refine jA (jG (v := iv (((left - (c.name.length : Int)) - (c.to_.length : Int)) - (c.text.length : Int))) rfl) <| jE <| jB <| jD <| jD <| jF <| jA (jC (v := iv (((left - (c.name.length : Int)) - (c.to_.length : Int)) - (c.text.length : Int))) rfl) <| jA (js rfl rfl) <| jE <| jB ?_
  by_cases h_4 : (((left - (c.name.length : Int)) - (c.to_.length : Int)) - (c.text.length : Int)) < 0
  · refine jR (cB (dT h_4)) <| jD <| jF <| jA (jG (v := iv (-1)) rfl) <| jE <| jB <| jM <| jX <| jV (.inl rfl) rfl (jN (v := iv (-1)) rfl) (List.nil_sublist _) ?_
    exact ⟨(-1), (by simp only [szCallF, h_2, h_3, h_4, SB]; (repeat (first | rw [if_pos (by omega)] | rw [if_neg (by omega)])); all_goals (first | rfl | simp only [SB, h_2, h_3, h_4])), rfl, rfl⟩
  refine jQ (cB (dF h_4)) <| jU <| jB <| jD <| jF <| jA (jC (v := iv (((left - (c.name.length : Int)) - (c.to_.length : Int)) - (c.text.length : Int))) rfl) <| jA (jG (v := iv (((left - (c.name.length : Int)) - (c.to_.length : Int)) - (c.text.length : Int))) rfl) <| jE <| jB <| jM ?_
  refine jV (.inl rfl) rfl (jN (v := iv (((left - (c.name.length : Int)) - (c.to_.length : Int)) - (c.text.length : Int))) rfl) (List.nil_sublist _) ?_
  exact ⟨(((left - (c.name.length : Int)) - (c.to_.length : Int)) - (c.text.length : Int)), (by simp only [szCallF, h_2, h_3, h_4, SB]; (repeat (first | rw [if_pos (by omega)] | rw [if_neg (by omega)])); all_goals (first | rfl | simp only [SB, h_2, h_3, h_4])), rfl, rfl⟩

theorem N_toCall (c : CL) :
    Ct Tryz.prog 8 [.agg #[.int .i64 c.kind, str c.name, str c.to_, .int .i64 c.a, .int .i64 c.b, str c.text]] [] (fun _ => True) (fun v A' => v = .agg #[.int .i64 c.kind, str c.name, str c.to_, .int .i64 c.a, .int .i64 c.b, str c.text] ∧ A' = []) := by
  refine Ct.intro Tryz.func8 rfl Tryz.ntmps8 (lb rfl) fun w0 hpre => ?_
  refine jD <| jF ?_
  refine jH rfl (jv (cs := [iv c.kind, str c.name, str c.to_, iv c.a, iv c.b, str c.text]) rfl rfl) ?_
  rintro _ _ ⟨b_1, rfl, rfl⟩
  refine jH rfl (jh (z := .agg #[iv 0, str [], str [], iv 0, iv 0, str []]) (cs := [iv 0, str [], str [], iv 0, iv 0, str []]) Tryz.zeroValue41 rfl) ?_
  rintro _ _ ⟨b_2, rfl, rfl⟩
  refine jE <| jB <| jD <| jF ?_
  refine jH rfl (jh (z := .agg #[iv 0, str [], str [], iv 0, iv 0, str []]) (cs := [iv 0, str [], str [], iv 0, iv 0, str []]) Tryz.zeroValue41 rfl) ?_
  rintro _ _ ⟨b_3, rfl, rfl⟩
  refine jE <| jB <| jD <| jF <| jA (jZ fo29_0 rfl) <| jT (ji 2 (v := iv c.kind) rfl rfl kh rfl) <| jA (jZ fo41_0 rfl) ?_
  refine jH rfl (jc 0 (vs := [iv c.kind]) (cs' := [iv c.kind, str [], str [], iv 0, iv 0, str []]) rfl rfl rfl rfl kf rfl rfl (lb rfl) rfl) ?_
  rintro _ _ rfl
  refine jE <| jB <| jD <| jF <| jA (jZ fo29_1 rfl) <| jT (ji 2 (v := str c.name) rfl rfl kZ rfl) <| jA (jZ fo41_1 rfl) ?_
  refine jH rfl (jc 0 (vs := [str c.name]) (cs' := [iv c.kind, str c.name, str [], iv 0, iv 0, str []]) rfl rfl rfl rfl ka rfl rfl (lb rfl) rfl) ?_
  rintro _ _ rfl
  refine jE <| jB <| jD <| jF <| jA (jZ fo29_2 rfl) <| jT (ji 2 (v := str c.to_) rfl rfl kZ rfl) <| jA (jZ fo41_2 rfl) ?_
  refine jH rfl (jc 0 (vs := [str c.to_]) (cs' := [iv c.kind, str c.name, str c.to_, iv 0, iv 0, str []]) rfl rfl rfl rfl ka rfl rfl (lb rfl) rfl) ?_
  rintro _ _ rfl
  refine jE <| jB <| jD <| jF <| jA (jZ fo29_3 rfl) <| jT (ji 2 (v := iv c.a) rfl rfl kh rfl) <| jA (jZ fo41_3 rfl) ?_
  refine jH rfl (jc 0 (vs := [iv c.a]) (cs' := [iv c.kind, str c.name, str c.to_, iv c.a, iv 0, str []]) rfl rfl rfl rfl kf rfl rfl (lb rfl) rfl) ?_
  rintro _ _ rfl
  refine jE <| jB <| jD <| jF <| jA (jZ fo29_4 rfl) <| jT (ji 2 (v := iv c.b) rfl rfl kh rfl) <| jA (jZ fo41_4 rfl) ?_
  refine jH rfl (jc 0 (vs := [iv c.b]) (cs' := [iv c.kind, str c.name, str c.to_, iv c.a, iv c.b, str []]) rfl rfl rfl rfl kf rfl rfl (lb rfl) rfl) ?_
  rintro _ _ rfl
  refine jE <| jB <| jD <| jF <| jA (jZ fo29_5 rfl) <| jT (ji 2 (v := str c.text) rfl rfl kZ rfl) <| jA (jZ fo41_5 rfl) ?_
  refine jH rfl (jc 0 (vs := [str c.text]) (cs' := [iv c.kind, str c.name, str c.to_, iv c.a, iv c.b, str c.text]) rfl rfl rfl rfl ka rfl rfl (lb rfl) rfl) ?_
  rintro _ _ rfl
  refine jE <| jB <| jD <| jF <| jT (jf 0 (vs := [iv c.kind, str c.name, str c.to_, iv c.a, iv c.b, str c.text]) rfl rfl kx kv rfl rfl) ?_
  refine jH rfl (jc 1 (vs := [iv c.kind, str c.name, str c.to_, iv c.a, iv c.b, str c.text]) (cs' := [iv c.kind, str c.name, str c.to_, iv c.a, iv c.b, str c.text]) rfl rfl rfl rfl kv rfl rfl (lb rfl) rfl) ?_
  rintro _ _ rfl
  refine jE <| jB <| jM <| jV (.inl rfl) rfl (je (jf 1 (vs := [iv c.kind, str c.name, str c.to_, iv c.a, iv c.b, str c.text]) rfl rfl kx kv rfl rfl) ⟨_, rfl⟩) (List.nil_sublist _) ?_
  exact ⟨rfl, rfl⟩

theorem N_eqAnswer (a : AN) :
    Ct Tryz.prog 11 [.agg #[.int .i64 a.code, .int .i64 a.n, str a.text], .agg #[.int .i64 a.code, .int .i64 a.n, str a.text]] [] (fun _ => True) (fun v A' => v = .bool true ∧ A' = []) := by
  refine Ct.intro Tryz.func11 rfl Tryz.ntmps11 (lb rfl) fun w0 hpre => ?_
  refine jD <| jF ?_
  refine jH rfl (jv (cs := [iv a.code, iv a.n, str a.text]) rfl rfl) ?_
  rintro _ _ ⟨b_1, rfl, rfl⟩
  refine jH rfl (jv (cs := [iv a.code, iv a.n, str a.text]) rfl rfl) ?_
  rintro _ _ ⟨b_2, rfl, rfl⟩
  refine jA (jG (v := .bool false) rfl) <| jE <| jB <| jD <| jD <| jF <| jA (jZ fo37_0 rfl) <| jT (ji 1 (v := iv a.code) rfl rfl kh rfl) <| jA (jZ fo37_0 rfl) <| jT (ji 0 (v := iv a.code) rfl rfl kh rfl) ?_
  refine jA (kQ rfl rfl) <| jE <| jB <| jQ (cB (cN (dT rfl))) <| jU <| jB <| jD <| jD <| jF <| jA (jZ fo37_1 rfl) ?_
  refine jT (ji 1 (v := iv a.n) rfl rfl kh rfl) <| jA (jZ fo37_1 rfl) <| jT (ji 0 (v := iv a.n) rfl rfl kh rfl) <| jA (kQ rfl rfl) <| jE <| jB <| jQ (cB (cN (dT rfl))) <| jU <| jB <| jD ?_
  refine jD <| jF <| jA (jZ fo37_2 rfl) <| jT (ji 1 (v := str a.text) rfl rfl kZ rfl) <| jA (jZ fo37_2 rfl) <| jT (ji 0 (v := str a.text) rfl rfl kZ rfl) <| jA (PO.neqS rfl rfl) <| jE <| jB <| jQ (cB (cN (dT rfl))) ?_
  refine jU <| jB <| jD <| jF <| jA (jG (v := .bool true) rfl) <| jE <| jB <| jM <| jV (.inl rfl) rfl (jN (v := .bool true) rfl) (List.nil_sublist _) ?_
  exact ⟨rfl, rfl⟩

end Go.Proofs.YthdgcbdfcclgbaaGreatDoor
