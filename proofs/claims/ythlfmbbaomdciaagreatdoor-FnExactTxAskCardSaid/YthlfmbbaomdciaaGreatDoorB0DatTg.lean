/-
Texts of the walk, joined: what each one proves stands at its theorems.
-/
import Derived.Test.YthlfmbbaomdciaaGreatDoorB0S27CALLS
import Derived.Test.YthlfmbbaomdciaaGreatDoorB0DatSt
import Derived.Laws.StructEq
import Derived.Laws.Small
set_option linter.unusedSimpArgs false
set_option linter.unusedVariables false
set_option linter.unnecessarySimpa false
set_option maxHeartbeats 4000000
set_option maxRecDepth 4000
namespace Go.Proofs.YthlfmbbaomdciaaGreatDoor
open Go Go.RowKit
theorem Ct.toMachB {P : Program} {f : FuncId} {args : List Value} {A : List Res} {Pre : World → Prop} {s : List Cell} {n : Nat} (h : Ct P f args A Pre (fun v A' => ∃ a c, v = .agg #[.slice a s.length c, .slice none 0 0, .slice none 0 0] ∧ A' = [rC a c s])) (hO : okC' n 1048576 s) :
   Ct P f args A Pre (fun v A' => ∃ r0x r0, (fun s => (⟨s, [], []⟩ : MS)) s = r0 ∧ r0.ok n 0 ∧ v = mv r0x r0 ∧ A' = mr r0x r0) := fun w hA hp => by
 refine (h w hA hp).mono fun e w' h => ?_
 obtain ⟨v, A', rfl, ⟨a, c, rfl, rfl⟩, hst⟩ := h
 refine ⟨_, mr ⟨a, c, none, 0, none, 0⟩ ⟨s, [], []⟩, rfl, ⟨⟨a, c, none, 0, none, 0⟩, _, rfl, ⟨hO.1, Nat.le_refl _, Nat.le_refl _, fun c hc => hO.2 c hc⟩, rfl, rfl⟩, ?_⟩
 exact ((hst.nilRow 9 1).nilRow 9 1).perm (List.perm_append_comm (l₁ := [rS none 0 [], rS none 0 []]) (l₂ := [rC a c s])).symm
theorem MS.ok.okC' {m : MS} {S T : Nat} (h : m.ok S T) : okC' S 1048576 m.s := ⟨h.1, fun c hc => h.2.2.2 c hc⟩
attribute [local irreducible] JL JC JQ JO LO PO JA JX Ct

theorem D_machOfB (sa : Option Addr) (sc : Nat) (s : List Cell) (hs : s.length ≤ 1000000000) {n : Nat} (hO : okC' n 1048576 s) :
   Ct Tryz.prog 106 [.slice sa s.length sc] [] (fun w => Sees w (.slice sa s.length sc) 2 s.length (s.flatMap encC)) (fun v A' => ∃ r0x r0, (fun s => (⟨s, [], []⟩ : MS)) s = r0 ∧ r0.ok n 0 ∧ v = mv r0x r0 ∧ A' = mr r0x r0) := (D_machOf0 sa sc s hs).toMachB hO

theorem I_machOf0 (sa : Option Addr) (sc : Nat) (s : List Cell) (hs : s.length ≤ 1000000000) :
   Ct Tryz.prog 103 [.slice sa s.length sc] [] (fun w => Sees w (.slice sa s.length sc) 2 s.length (s.flatMap encC)) (fun v A' => ∃ a c, v = .agg #[.slice a s.length c, .slice none 0 0, .slice none 0 0] ∧ A' = [rC a c s]) := by
 refine Ct.intro Tryz.func103 rfl Tryz.ntmps103 (lb rfl) fun w0 hpre => ?_
 have hs_sa : Sees w0 _ _ _ _ := hpre
 refine go ?_
 refine jG zC fun b_1 => ?_
 refine go ?_
 refine jA [] (C_cloneC sa sc s (by omega)) (hpre := fun w hw => hw.seeOut_ hs_sa nM) ?_
 rintro _ _ ⟨a_2, c_3, rfl, rfl⟩
 refine jK (je (ps := [(0, .slice a_2 s.length c_3)]) (cs := [.slice a_2 s.length c_3, .slice none 0 0, .slice none 0 0]) rfl (by kernel_rfl)) ?_
 refine jD 1 [.slice a_2 s.length c_3, .slice none 0 0, .slice none 0 0] ?_
 refine go ?_
 exact jJ [0] ⟨a_2, c_3, rfl, rfl⟩

theorem I_machOfB (sa : Option Addr) (sc : Nat) (s : List Cell) (hs : s.length ≤ 1000000000) {n : Nat} (hO : okC' n 1048576 s) :
   Ct Tryz.prog 103 [.slice sa s.length sc] [] (fun w => Sees w (.slice sa s.length sc) 2 s.length (s.flatMap encC)) (fun v A' => ∃ r0x r0, (fun s => (⟨s, [], []⟩ : MS)) s = r0 ∧ r0.ok n 0 ∧ v = mv r0x r0 ∧ A' = mr r0x r0) := (I_machOf0 sa sc s hs).toMachB hO

theorem I_callOn (sa : Option Addr) (sc : Nat) (s : List Cell) (proc : Int) (c : CL) (hs : s.length ≤ 28000000) (hproc : -9223372036854775808 ≤ proc ∧ proc ≤ 9223372036854775807) (hc : c.ok 1048576) {n : Nat} (hO : okC' n 1048576 s) (hn : n ≤ 28000000) :
   Ct Tryz.prog 36 [.slice sa s.length sc, .int .i64 proc, .agg #[.int .i64 c.kind, str c.name, str c.to_, .int .i64 c.a, .int .i64 c.b, str c.text]] ([]) (fun w => Sees w (.slice sa s.length sc) 2 s.length (s.flatMap encC) ∧ HexOk w) (fun v A' => ∃ (x' : MA) (m' : MS) (r0 : AN), (⟨s, [], []⟩ : MS).doCall proc c = (m', r0) ∧ m'.ok (3 * n + 20) (7 * n + 200) ∧ ((0 ≤ r0.code ∧ r0.code ≤ 9) ∧ (-1 ≤ r0.n ∧ r0.n ≤ 1000000000) ∧ r0.text.length ≤ 30000000000000) ∧ v = .tuple #[.slice x'.a0 m'.s.length x'.c0, .agg #[.int .i64 r0.code, .int .i64 r0.n, str r0.text], .agg #[.slice x'.a1 m'.r.length x'.c1, .slice x'.a2 m'.w.length x'.c2]] ∧ A' = mr x' m') := by
 refine Ct.introL Tryz.func36 rfl Tryz.ntmps36 (lb rfl) fun w0 hpre hlow => ?_
 have hs_sa : Sees w0 _ _ _ _ := hpre.1
 obtain ⟨hc1, hc2, hc3, hc4, hc5, hc6⟩ := id hc
 refine go ?_
 refine jM [iv c.kind, str c.name, str c.to_, iv c.a, iv c.b, str c.text] fun b_1 => ?_
 refine go ?_
 refine jG [iv 0, iv 0, str []] fun b_2 => ?_
 refine jG [.slice none 0 0, .slice none 0 0] fun b_3 => ?_
 refine go ?_
 refine jA [] (I_machOfB sa sc s (by first | omega | simp) hO) (hpre := fun w hw => hw.seeOut_ hs_sa nM) ?_
 rintro _ _ ⟨x_4, m_5, e_7, k_6, rfl, rfl⟩
 refine jG zC fun b_8 => ?_
 refine jD 0 (mc x_4 m_5) ?_
 refine go ?_
 refine jA [0, 0, 0, 0] (N_do b_8 x_4 m_5 k_6 (by omega) (by omega) proc c (by omega) hc) (hpre := fun w hw => hw.hex hlow hpre.2) ?_
 rintro _ _ ⟨x_11, m_12, A_13, e_9, k_10, f_14, rfl, rfl⟩
 refine jG [iv 0, iv 0, str []] fun b_15 => ?_
 refine jD 0 [iv A_13.code, iv A_13.n, str A_13.text] ?_
 refine go ?_
 refine jH [0, 0] 7 ?_
 refine go ?_
 refine jB (i := 6) ?_
 refine jp 6 [iv A_13.code, iv A_13.n, str A_13.text] ?_
 refine jB (i := 7) ?_
 refine jS 5 [.slice x_11.a1 m_12.r.length x_11.c1, .slice x_11.a2 m_12.w.length x_11.c2] ?_
 refine go ?_
 refine ju (pick_perm [2, 2, 2] (A := [rC x_11.a0 x_11.c0 m_12.s, rS x_11.a1 x_11.c1 m_12.r, rS x_11.a2 x_11.c2 m_12.w]) (F := [bk b_15 39 [iv A_13.code, iv A_13.n, str A_13.text], mb b_8 x_11 m_12, bk b_3 32 [.slice x_11.a1 m_12.r.length x_11.c1, .slice x_11.a2 m_12.w.length x_11.c2], bk b_2 39 [iv A_13.code, iv A_13.n, str A_13.text], bk b_1 43 [iv c.kind, str c.name, str c.to_, iv c.a, iv c.b, str c.text]]) rfl).symm ?_
 refine Done.three (.inl rfl) rfl (jC (v := .slice x_11.a0 m_12.s.length x_11.c0) rfl) (js (jl 6 (vs := [iv A_13.code, iv A_13.n, str A_13.text]) rfl rfl kp kY rfl rfl) ⟨_, rfl⟩) (js (jl 5 (vs := [.slice x_11.a1 m_12.r.length x_11.c1, .slice x_11.a2 m_12.w.length x_11.c2]) rfl rfl kt ku rfl rfl) ⟨_, rfl⟩) (tS 3 _) ?_
 subst e_7
 exact ⟨x_11, m_12, A_13, e_9, (k_10.mono (by omega) (by omega)), (by (try dsimp only); omega), rfl, rfl⟩

theorem D_callOn (sa : Option Addr) (sc : Nat) (s : List Cell) (proc : Int) (c : CL) (hs : s.length ≤ 28000000) (hproc : -9223372036854775808 ≤ proc ∧ proc ≤ 9223372036854775807) (hc : c.ok 1048576) {n : Nat} (hO : okC' n 1048576 s) (hn : n ≤ 28000000) :
   Ct Tryz.prog 37 [.slice sa s.length sc, .int .i64 proc, .agg #[.int .i64 c.kind, str c.name, str c.to_, .int .i64 c.a, .int .i64 c.b, str c.text]] ([]) (fun w => Sees w (.slice sa s.length sc) 2 s.length (s.flatMap encC)) (fun v A' => ∃ (x' : MA) (m' : MS) (r0 : AN), (⟨s, [], []⟩ : MS).doCall proc c = (m', r0) ∧ m'.ok (3 * n + 20) (7 * n + 200) ∧ ((0 ≤ r0.code ∧ r0.code ≤ 9) ∧ (-1 ≤ r0.n ∧ r0.n ≤ 1000000000) ∧ r0.text.length ≤ 30000000000000) ∧ v = .tuple #[.slice x'.a0 m'.s.length x'.c0, .agg #[.int .i64 r0.code, .int .i64 r0.n, str r0.text], .agg #[.slice x'.a1 m'.r.length x'.c1, .slice x'.a2 m'.w.length x'.c2]] ∧ A' = mr x' m') := by
 refine Ct.intro Tryz.func37 rfl Tryz.ntmps37 (lb rfl) fun w0 hpre => ?_
 have hs_sa : Sees w0 _ _ _ _ := hpre
 obtain ⟨hc1, hc2, hc3, hc4, hc5, hc6⟩ := id hc
 refine go ?_
 refine jM [iv c.kind, str c.name, str c.to_, iv c.a, iv c.b, str c.text] fun b_1 => ?_
 refine go ?_
 refine jG [iv 0, iv 0, str []] fun b_2 => ?_
 refine jG [.slice none 0 0, .slice none 0 0] fun b_3 => ?_
 refine jb <| jT <| jc ?_
 refine JC.cut (fun e_ L_ => ∃ m_5 : MS, ∃ x_10 : MA, ∃ m_11 : MS, ∃ A_12 : AN, ∃ b_14 : Nat, ∃ b_15 : Nat, (m_5.ok (n) (0)) ∧ ((fun s => (⟨s, [], []⟩ : MS)) s = m_5) ∧ (MS.doCall m_5 proc c = (m_11, A_12)) ∧ (m_11.ok (3 * n + 20) (0 + 7 * n + 200)) ∧ ((0 ≤ A_12.code ∧ A_12.code ≤ 9) ∧ (-1 ≤ A_12.n ∧ A_12.n ≤ 1000000000) ∧ A_12.text.length ≤ 30000000000000) ∧ EL e_ [(6, .slice none 0 0), (7, .pointer (some ⟨b_2, 0, none⟩)), (8, .pointer (some ⟨b_3, 0, none⟩)), (9, .pointer (some ⟨b_14, 0, none⟩)), (10, .pointer (some ⟨b_15, 0, none⟩))] ∧ L_ = [bk b_15 39 [iv A_12.code, iv A_12.n, str A_12.text], mb b_14 x_10 m_11, rC x_10.a0 x_10.c0 m_11.s, rS x_10.a1 x_10.c1 m_11.r, rS x_10.a2 x_10.c2 m_11.w, bk b_3 32 [.slice none 0 0, .slice none 0 0], bk b_2 39 [iv 0, iv 0, str []], bk b_1 43 [iv c.kind, str c.name, str c.to_, iv c.a, iv c.b, str c.text]]) ?_ ?_
 · refine jH [2] 10 ?_
   refine go ?_
   repeat' first
     | refine kD (i := 1) (j := 8) (k := 9) (by decide +kernel) ?_ ?_ ?_
     | refine kD (i := 4) (j := 8) (k := 9) (by decide +kernel) ?_ ?_ ?_
     | refine jZ (i := 8) (j := 9) (by decide +kernel) ?_ ?_
     | refine jB (i := 9) ?_ (by decide +kernel)
     | refine jB (i := 10) ?_ (by decide +kernel)
     | refine jB (i := 11) ?_ (by decide +kernel)
     | refine jB (i := 8) ?_ (by decide +kernel)
     | refine jZ (i := 4) (j := 9) (by decide +kernel) ?_ ?_
     | refine jB (i := 4) ?_ (by decide +kernel)
     | refine jZ (i := 4) (j := 8) (by decide +kernel) ?_ ?_
     | refine jZ (i := 1) (j := 9) (by decide +kernel) ?_ ?_
     | refine jB (i := 1) ?_ (by decide +kernel)
     | refine jZ (i := 1) (j := 8) (by decide +kernel) ?_ ?_
     | (refine jI (i := 1) [] (D_machOfB sa sc s (by first | omega | simp) hO) (hpre := fun w hw => hw.seeOut_ hs_sa nM) ?_; rintro _ _ ⟨x_30, m_31, e_33, k_32, rfl, rfl⟩)
     | (refine jI (i := 4) [0, 0, 0] (M_do x_30 m_31 k_32 (by omega) (by omega) proc c (by omega) hc) ?_; rintro _ _ ⟨x_44, m_45, A_46, e_42, k_43, f_47, rfl, rfl⟩; refine go ?_)
     | (refine JX.al (i := 8) zC fun b_50 => ?_)
     | (refine JX.al (i := 9) [iv 0, iv 0, str []] fun b_52 => ?_)
     | (refine jf (i := 10) 1 (mc x_44 m_45) ?_)
     | (refine jS (i := 11) 0 [iv A_46.code, iv A_46.n, str A_46.text] ?_)
     | (refine jf (i := 10) 0 (mc x_44 m_45) ?_)
     | (refine jS (i := 11) 1 [iv A_46.code, iv A_46.n, str A_46.text] ?_)
     | (refine jI (i := 4) [1, 1, 1] (M_do x_30 m_31 k_32 (by omega) (by omega) proc c (by omega) hc) ?_; rintro _ _ ⟨x_44, m_45, A_46, e_42, k_43, f_47, rfl, rfl⟩; refine go ?_)
     | (refine jf (i := 10) 4 (mc x_44 m_45) ?_)
     | (refine jI (i := 4) [2, 2, 2] (M_do x_30 m_31 k_32 (by omega) (by omega) proc c (by omega) hc) ?_; rintro _ _ ⟨x_44, m_45, A_46, e_42, k_43, f_47, rfl, rfl⟩; refine go ?_)
     | (refine jS (i := 11) 3 [iv A_46.code, iv A_46.n, str A_46.text] ?_)
     | (refine jS (i := 11) 4 [iv A_46.code, iv A_46.n, str A_46.text] ?_)
     | (refine jf (i := 10) 3 (mc x_44 m_45) ?_)
     | exact jh [0, 0, 0, 0, 0, 0, 0, 0] ⟨m_31, x_44, m_45, A_46, b_50, b_52, k_32, e_33, e_42, k_43, f_47, EL.go, rfl⟩
     | exact jh [1, 0, 0, 0, 0, 0, 0, 0] ⟨m_31, x_44, m_45, A_46, b_50, b_52, k_32, e_33, e_42, k_43, f_47, EL.go, rfl⟩
     | exact jh [0, 3, 0, 0, 0, 0, 0, 0] ⟨m_31, x_44, m_45, A_46, b_50, b_52, k_32, e_33, e_42, k_43, f_47, EL.go, rfl⟩
     | exact jh [3, 3, 0, 0, 0, 0, 0, 0] ⟨m_31, x_44, m_45, A_46, b_50, b_52, k_32, e_33, e_42, k_43, f_47, EL.go, rfl⟩
     | exact jh [4, 0, 0, 0, 0, 0, 0, 0] ⟨m_31, x_44, m_45, A_46, b_50, b_52, k_32, e_33, e_42, k_43, f_47, EL.go, rfl⟩
     | exact jh [4, 3, 0, 0, 0, 0, 0, 0] ⟨m_31, x_44, m_45, A_46, b_50, b_52, k_32, e_33, e_42, k_43, f_47, EL.go, rfl⟩
 rintro _ _ ⟨m_5, x_10, m_11, A_12, b_14, b_15, k_6, e_7, e_8, k_9, f_13, ⟨_, rfl⟩, rfl⟩
 refine go ?_
 refine jH [0, 0] 7 ?_
 refine go ?_
 refine jB (i := 6) ?_
 refine jp 6 [iv A_12.code, iv A_12.n, str A_12.text] ?_
 refine jB (i := 7) ?_
 refine jS 5 [.slice x_10.a1 m_11.r.length x_10.c1, .slice x_10.a2 m_11.w.length x_10.c2] ?_
 refine go ?_
 refine ju (pick_perm [2, 2, 2] (A := [rC x_10.a0 x_10.c0 m_11.s, rS x_10.a1 x_10.c1 m_11.r, rS x_10.a2 x_10.c2 m_11.w]) (F := [bk b_15 39 [iv A_12.code, iv A_12.n, str A_12.text], mb b_14 x_10 m_11, bk b_3 32 [.slice x_10.a1 m_11.r.length x_10.c1, .slice x_10.a2 m_11.w.length x_10.c2], bk b_2 39 [iv A_12.code, iv A_12.n, str A_12.text], bk b_1 43 [iv c.kind, str c.name, str c.to_, iv c.a, iv c.b, str c.text]]) rfl).symm ?_
 refine Done.three (.inl rfl) rfl (jC (v := .slice x_10.a0 m_11.s.length x_10.c0) rfl) (js (jl 6 (vs := [iv A_12.code, iv A_12.n, str A_12.text]) rfl rfl kp kY rfl rfl) ⟨_, rfl⟩) (js (jl 5 (vs := [.slice x_10.a1 m_11.r.length x_10.c1, .slice x_10.a2 m_11.w.length x_10.c2]) rfl rfl kt ku rfl rfl) ⟨_, rfl⟩) (tS 3 _) ?_
 subst e_7
 exact ⟨x_10, m_11, A_12, e_8, (k_9.mono (by omega) (by omega)), (by (try dsimp only); omega), rfl, rfl⟩
end Go.Proofs.YthlfmbbaomdciaaGreatDoor
namespace Go.Proofs.YthlfmbbaomdciaaGreatDoor
open Go Go.RowKit
/-- How many keys steps touch, whose stores are bounded so. -/
def sumT (G : Nat → Nat) (T : Nat) : Nat → Nat
 | 0 => T
 | j + 1 => sumT G T j + 7 * G j + 200
/-- How great a store is at most behind calls of one process. -/
def gro (n j : Nat) : Nat := n + j * (2 * n + 2 * j + 142)
def groT (n T : Nat) : Nat → Nat := sumT (gro n) T
theorem sumT_step (G : Nat → Nat) (T j : Nat) : sumT G T (j + 1) = sumT G T j + 7 * G j + 200 := rfl
theorem sumT_le (G : Nat → Nat) (T : Nat) {i j : Nat} (h : i ≤ j) : sumT G T i ≤ sumT G T j := by
 induction h with
 | refl => exact Nat.le_refl _
 | step _ ih => rw [sumT_step]; omega
theorem groT_le (S T : Nat) {i j : Nat} (h : i ≤ j) : groT S T i ≤ groT S T j := sumT_le _ _ h
theorem gro_le (S : Nat) {i j : Nat} (h : i ≤ j) : gro S i ≤ gro S j := Nat.add_le_add_left (Nat.mul_le_mul h (by omega)) _
/-- The steps done by a machine, and what they told, behind what was told already. -/
def MS.runA : MS → List SP → List AN → MS × List AN
 | m, [], o => (m, o)
 | m, p :: l, o => MS.runA (m.doCall p.proc p.call).1 l (o ++ [(m.doCall p.proc p.call).2])
theorem runA_step {m m1 : MS} {a : AN} {l : List SP} {o : List AN} {j : Nat} (hj : j < l.length) (e : m.doCall (l.getD j p0_).proc (l.getD j p0_).call = (m1, a)) : MS.runA m (l.drop j) o = MS.runA m1 (l.drop (j + 1)) (o ++ [a]) := by
 rw [drop_at (getD_some (d := p0_) hj), MS.runA, e]
theorem foldSpan_len : ∀ (l r : List Str), (l.foldl addSpan r).length ≤ r.length + l.length
 | [], r => Nat.le_refl _
 | x :: l, r => by
   have h1 := foldSpan_len l (addSpan r x)
   have h2 := addSpan_len r x
   simp only [List.foldl_cons, List.length_cons] at *
   omega
/-- The steps done one by one on a store: what they told, and what they touched. -/
def runL : List Cell → List AN → List Str → List Str → List SP → List Cell × List AN × List Str × List Str
 | s, o, r, w, [] => (s, o, r, w)
 | s, o, r, w, p :: l => runL ((⟨s, [], []⟩ : MS).doCall p.proc p.call).1.s (o ++ [((⟨s, [], []⟩ : MS).doCall p.proc p.call).2]) (((⟨s, [], []⟩ : MS).doCall p.proc p.call).1.r.foldl addSpan r) (((⟨s, [], []⟩ : MS).doCall p.proc p.call).1.w.foldl addSpan w) l
theorem runL_step {s : List Cell} {m1 : MS} {a : AN} {l : List SP} {o : List AN} {r w : List Str} {j : Nat} (hj : j < l.length) (e : (⟨s, [], []⟩ : MS).doCall (l.getD j p0_).proc (l.getD j p0_).call = (m1, a)) : runL s o r w (l.drop j) = runL m1.s (o ++ [a]) (m1.r.foldl addSpan r) (m1.w.foldl addSpan w) (l.drop (j + 1)) := by
 rw [drop_at (getD_some (d := p0_) hj), runL, e]
/-- Calls in range. -/
def okSteps (l : List SP) : Prop := ∀ j, j < l.length → (l.getD j p0_).call.ok 1048576 ∧ -9223372036854775808 ≤ (l.getD j p0_).proc ∧ (l.getD j p0_).proc ≤ 9223372036854775807
def stepsOf (t : TD) : List SP := t.calls.map fun c => ⟨t.proc, c⟩
/-- What a transaction sees. -/
def viewA (s : List Cell) (t : TD) : List Cell := (MS.runA ⟨s, [], []⟩ (stepsOf t) []).1.s
def viewL (s : List Cell) (t : TD) : List Cell := (runL s [] [] [] (stepsOf t)).1
/-- A call asked within a transaction that sees this store. -/
def TD.askV (v : List Cell) (t : TD) (c : CL) : TD × AN :=
 if ¬ t.state = 1 then (t, ⟨2, 0, []⟩) else if 12 ≤ t.calls.length then (t, ⟨3, 0, []⟩) else
   ({ t with calls := t.calls ++ [c], ans := t.ans ++ [((⟨v, [], []⟩ : MS).doCall t.proc c).2], rd := ((⟨v, [], []⟩ : MS).doCall t.proc c).1.r.foldl addSpan t.rd, wr := ((⟨v, [], []⟩ : MS).doCall t.proc c).1.w.foldl addSpan t.wr }, ((⟨v, [], []⟩ : MS).doCall t.proc c).2)
structure TX where
 x : TA
 t : TD
@[reducible] def xc (p : TX) : List Value := [.int .i64 p.t.id, .int .i64 p.t.age, .int .i64 p.t.proc, .int .i64 p.t.began, .slice p.x.a0 p.t.calls.length p.x.c0, .slice p.x.a1 p.t.ans.length p.x.c1, .slice p.x.a2 p.t.rd.length p.x.c2, .slice p.x.a3 p.t.wr.length p.x.c3, .slice p.x.a4 p.t.marks.length p.x.c4, .int .i64 p.t.state]
@[reducible] def xzc : List Value := [.int .i64 0, .int .i64 0, .int .i64 0, .int .i64 0, .slice none 0 0, .slice none 0 0, .slice none 0 0, .slice none 0 0, .slice none 0 0, .int .i64 0]
def rdsX (p : TX) : List RD := [⟨.slice p.x.a0 p.t.calls.length p.x.c0, 43, 6, p.t.calls.length, p.t.calls.flatMap encK⟩, ⟨.slice p.x.a1 p.t.ans.length p.x.c1, 39, 3, p.t.ans.length, p.t.ans.flatMap encA⟩, ⟨.slice p.x.a2 p.t.rd.length p.x.c2, 9, 1, p.t.rd.length, p.t.rd.map str⟩, ⟨.slice p.x.a3 p.t.wr.length p.x.c3, 9, 1, p.t.wr.length, p.t.wr.map str⟩, ⟨.slice p.x.a4 p.t.marks.length p.x.c4, 3, 1, p.t.marks.length, p.t.marks.map (Value.int .i64)⟩]
theorem seesX {w : World} {p : TX} (h : SeesA w (rdsX p)) : Sees w (.slice p.x.a0 p.t.calls.length p.x.c0) 6 p.t.calls.length (p.t.calls.flatMap encK) ∧ Sees w (.slice p.x.a1 p.t.ans.length p.x.c1) 3 p.t.ans.length (p.t.ans.flatMap encA) ∧ Sees w (.slice p.x.a2 p.t.rd.length p.x.c2) 1 p.t.rd.length (p.t.rd.map str) ∧ Sees w (.slice p.x.a3 p.t.wr.length p.x.c3) 1 p.t.wr.length (p.t.wr.map str) ∧ Sees w (.slice p.x.a4 p.t.marks.length p.x.c4) 1 p.t.marks.length (p.t.marks.map (Value.int .i64)) := ⟨h.head, h.tail.head, h.tail.tail.head, h.tail.tail.tail.head, h.tail.tail.tail.tail.head⟩
theorem TD.same {a b : TD} : a = b ↔ a.id = b.id ∧ a.age = b.age ∧ a.proc = b.proc ∧ a.began = b.began ∧ a.calls = b.calls ∧ a.ans = b.ans ∧ a.rd = b.rd ∧ a.wr = b.wr ∧ a.marks = b.marks ∧ a.state = b.state := by cases a; cases b; simp
instance decTD : DecidableEq TD := fun a b => decidable_of_iff _ TD.same.symm
structure TD.lim (t : TD) (n : Nat) : Prop where
 l0 : t.calls.length ≤ n
 l1 : t.ans.length ≤ n
 l2 : t.rd.length ≤ n
 l3 : t.wr.length ≤ n
 l4 : t.marks.length ≤ n
theorem TD.lim.mono {t : TD} {n m : Nat} (h : t.lim n) (hm : n ≤ m) : t.lim m := ⟨Nat.le_trans h.l0 hm, Nat.le_trans h.l1 hm, Nat.le_trans h.l2 hm, Nat.le_trans h.l3 hm, Nat.le_trans h.l4 hm⟩
/-- A transaction's calls and process in range. -/
structure okT (t : TD) : Prop where
 cs : ∀ c ∈ t.calls, c.ok 1048576
 n : t.calls.length ≤ 2000000
 pr : -9223372036854775808 ≤ t.proc ∧ t.proc ≤ 9223372036854775807
theorem okSteps_of {t : TD} (h : okT t) : okSteps (stepsOf t) := fun j hj => by
 have hm := getD_mem (d := p0_) hj
 unfold stepsOf at hm ⊢
 obtain ⟨c, hc, he⟩ := List.mem_map.1 hm
 rw [← he]
 exact ⟨h.cs c hc, h.pr.1, h.pr.2⟩
theorem askV_off {v : List Cell} {t : TD} {c : CL} (h : ¬ t.state = 1) : TD.askV v t c = (t, ⟨2, 0, []⟩) := by rw [TD.askV, if_pos h]
theorem askV_full {v : List Cell} {t : TD} {c : CL} (h : t.state = 1) (h2 : 12 ≤ t.calls.length) : TD.askV v t c = (t, ⟨3, 0, []⟩) := by rw [TD.askV, if_neg (fun hn => hn h), if_pos h2]
theorem askV_on {v : List Cell} {t : TD} {c : CL} (h : t.state = 1) (h2 : ¬ 12 ≤ t.calls.length) : TD.askV v t c = ({ t with calls := t.calls ++ [c], ans := t.ans ++ [((⟨v, [], []⟩ : MS).doCall t.proc c).2], rd := ((⟨v, [], []⟩ : MS).doCall t.proc c).1.r.foldl addSpan t.rd, wr := ((⟨v, [], []⟩ : MS).doCall t.proc c).1.w.foldl addSpan t.wr }, ((⟨v, [], []⟩ : MS).doCall t.proc c).2) := by rw [TD.askV, if_neg (fun hn => hn h), if_neg h2]
theorem getKey_mid_ne {key k2 val : Str} (h : ¬ key = k2) : ∀ (a b : List Cell), getKey (a ++ (key, val) :: b) k2 = getKey (a ++ b) k2
 | [], b => by rw [List.nil_append, List.nil_append, getKey, if_neg h]
 | c :: a, b => by
   rw [List.cons_append, List.cons_append, getKey, getKey, getKey_mid_ne h a b]
theorem getKey_filter_ne {key k2 : Str} (h : ¬ key = k2) : ∀ s : List Cell, getKey (s.filter (fun c => !decide (c.1 = key))) k2 = getKey s k2
 | [] => rfl
 | c :: s => by
   by_cases hc : c.1 = key
   · rw [List.filter_cons_of_neg (by simp [hc]), getKey_filter_ne h s, getKey, if_neg (by rw [hc]; exact h)]
   · rw [List.filter_cons_of_pos (by simp [hc]), getKey, getKey, getKey_filter_ne h s]
theorem getKey_put_ne {s : List Cell} {key k2 val : Str} (h : ¬ key = k2) : getKey (putKey s key val) k2 = getKey s k2 := by
 unfold putKey
 split
 · rfl
 · simp only
   split
   · exact getKey_filter_ne h s
   · unfold insertAt
     rw [getKey_mid_ne h, List.take_append_drop, getKey_filter_ne h s]
theorem getKey_absent {key : Str} : ∀ {s : List Cell}, (∀ c ∈ s, ¬ c.1 = key) → getKey s key = []
 | [], _ => rfl
 | c :: s, h => by rw [getKey, if_neg (h c (List.mem_cons_self ..)), getKey_absent fun d hd => h d (List.mem_cons_of_mem _ hd)]
theorem getKey_put_nil {s : List Cell} {key : Str} (hk : keyOk key = true) : getKey (putKey s key []) key = [] := by
 rw [putKey_nil hk (by simp) rfl]
 exact getKey_absent fun c hc => by simpa using (List.mem_filter.1 hc).2
def pk (t : Str) : Str := keyNum ([112, 47] : Str) 1 t
structure isStore (c : CL) : Prop where
 k : c.kind = 20
 a : 0 ≤ c.a ∧ c.a ≤ 3
 b : c.b = 0
 n : c.name = []
 t : c.to_ = []
 x : c.text = [97, 98]
theorem isStore.ok {c : CL} (h : isStore c) : c.ok 1048576 := by
 obtain ⟨h1, h2, h3, h4, h5, h6⟩ := h
 refine ⟨by omega, by omega, by omega, by rw [h4]; exact Nat.zero_le _, by rw [h5]; exact Nat.zero_le _, by rw [h6]; decide⟩
/-- A transaction of i page calls. -/
structure stInv (i : Nat) (t : TD) : Prop where
 s : t.state = 1
 p : t.proc = 1
 n : t.calls.length = i
 cs : ∀ c ∈ t.calls, isStore c
 r : t.rd.length ≤ i * 20000000
 w : t.wr.length ≤ i * 20000000
 a : t.ans.length = i
 m : t.marks.length = 0
theorem stInv.lim {i : Nat} {t : TD} (h : stInv i t) (hi : i ≤ 12) : t.lim 500000000 := ⟨by have := h.n; omega, by have := h.a; omega, by have := h.r; omega, by have := h.w; omega, by have := h.m; omega⟩
theorem stInv.okT {i : Nat} {t : TD} (h : stInv i t) (hi : i ≤ 12) : okT t := ⟨fun c hc => (h.cs c hc).ok, by have := h.n; omega, by have := h.p; omega⟩
/-- What is told of a transaction that marks and asks. -/
structure mkInv (i : Nat) (t : TD) : Prop where
 s : t.state = 1
 p : t.proc = 1
 n : t.calls.length = i
 cs : ∀ c ∈ t.calls, c.ok 1048576
 r : t.rd.length ≤ i * 20000000
 w : t.wr.length ≤ i * 20000000
 a : t.ans.length = i
 m : t.marks = (List.range i).map fun k => ((k : Nat) : Int)
theorem mkInv.ml {i : Nat} {t : TD} (h : mkInv i t) : t.marks.length = i := by rw [h.m, List.length_map, List.length_range]
theorem mkInv.lim {i : Nat} {t : TD} (h : mkInv i t) (hi : i ≤ 12) : t.lim 500000000 := ⟨by have := h.n; omega, by have := h.a; omega, by have := h.r; omega, by have := h.w; omega, by have := h.ml; omega⟩
/-- A transaction behind i calls. -/
structure xInv (i : Nat) (t : TD) : Prop where
 s : t.state = 1
 p : 0 ≤ t.proc ∧ t.proc ≤ 9
 n : t.calls.length = i
 cs : ∀ c ∈ t.calls, c.ok 1048576
 r : t.rd.length ≤ i * 20000000
 w : t.wr.length ≤ i * 20000000
 a : t.ans.length = i
 m : t.marks.length ≤ 4
theorem xInv.lim {i : Nat} {t : TD} (h : xInv i t) (hi : i ≤ 20) : t.lim 500000000 := ⟨by have := h.n; omega, by have := h.a; omega, by have := h.r; omega, by have := h.w; omega, by have := h.m; omega⟩
theorem xInv.okT {i : Nat} {t : TD} (h : xInv i t) (hi : i ≤ 20) : okT t := ⟨h.cs, by have := h.n; omega, by have := h.p; omega⟩
def stepsTr : List Cell → List SP → Tr (List AN)
 | s, [] => ⟨s, [], [], []⟩
 | s, p :: l => let t := callTr s p.proc p.call; let u := stepsTr t.s l; ⟨u.s, t.v :: u.v, t.r ++ u.r, t.w ++ u.w⟩
theorem runA_tr : ∀ (l : List SP) (m : MS) (o : List AN), m.runA l o = (⟨(stepsTr m.s l).s, (stepsTr m.s l).r.foldl addSpan m.r, (stepsTr m.s l).w.foldl addSpan m.w⟩, o ++ (stepsTr m.s l).v)
 | [], m, o => by simp [MS.runA, stepsTr]
 | p :: l, m, o => by
   rw [MS.runA, runA_tr l, doCall_tr]
   simp only [stepsTr, List.foldl_append, List.append_assoc, List.singleton_append]
theorem runL_tr : ∀ (l : List SP) (s : List Cell) (o : List AN) (r w : List Str), srt r → srt w → runL s o r w l = ((stepsTr s l).s, o ++ (stepsTr s l).v, (stepsTr s l).r.foldl addSpan r, (stepsTr s l).w.foldl addSpan w)
 | [], s, o, r, w, _, _ => by simp [runL, stepsTr]
 | p :: l, s, o, r, w, hr, hw => by
   rw [runL, doCall_tr]
   dsimp only
   rw [runL_tr l _ _ _ _ hr.addAll hw.addAll, fresh_all hr, fresh_all hw]
   simp only [stepsTr, List.foldl_append, List.append_assoc, List.singleton_append]
theorem srt.nil : srt [] := List.Pairwise.nil
theorem viewA_tr (s : List Cell) (t : TD) : viewA s t = (stepsTr s (stepsOf t)).s := by rw [viewA, runA_tr]
theorem viewL_tr (s : List Cell) (t : TD) : viewL s t = (stepsTr s (stepsOf t)).s := by rw [viewL, runL_tr _ _ _ _ _ srt.nil srt.nil]
theorem view_eq (s : List Cell) (t : TD) : viewA s t = viewL s t := by rw [viewA_tr, viewL_tr]
theorem stepsTr_app : ∀ (a b : List SP) (s : List Cell), stepsTr s (a ++ b) = ⟨(stepsTr (stepsTr s a).s b).s, (stepsTr s a).v ++ (stepsTr (stepsTr s a).s b).v, (stepsTr s a).r ++ (stepsTr (stepsTr s a).s b).r, (stepsTr s a).w ++ (stepsTr (stepsTr s a).s b).w⟩
 | [], b, s => by simp [stepsTr]
 | p :: a, b, s => by
   simp only [List.cons_append, stepsTr, stepsTr_app a b, List.append_assoc]
theorem stepsTr_snoc (a : List SP) (p : SP) (s : List Cell) : stepsTr s (a ++ [p]) = ⟨(callTr (stepsTr s a).s p.proc p.call).s, (stepsTr s a).v ++ [(callTr (stepsTr s a).s p.proc p.call).v], (stepsTr s a).r ++ (callTr (stepsTr s a).s p.proc p.call).r, (stepsTr s a).w ++ (callTr (stepsTr s a).s p.proc p.call).w⟩ := by
 rw [stepsTr_app]
 simp only [stepsTr, List.append_nil]
theorem okSteps.one {p : SP} (h1 : p.call.ok 1048576) (h2 : -9223372036854775808 ≤ p.proc ∧ p.proc ≤ 9223372036854775807) : okSteps [p] := fun j hj => by
 have : j = 0 := by simp only [List.length_cons, List.length_nil] at hj; omega
 subst this
 exact ⟨h1, h2.1, h2.2⟩
theorem okSteps.take {l : List SP} (h : okSteps l) (k : Nat) : okSteps (l.take k) := fun j hj => by
 rw [List.length_take] at hj
 rw [show (l.take k).getD j p0_ = l.getD j p0_ by simp only [List.getD_eq_getElem?_getD, List.getElem?_take]; rw [if_pos (by omega)]]
 exact h j (by omega)
end Go.Proofs.YthlfmbbaomdciaaGreatDoor
