/-
Texts of the walk, joined: what each one proves stands at its theorems.
-/
import Derived.Test.YthlfmbbaomdciaaGreatDoorB4S45KOK
set_option linter.unusedSimpArgs false
set_option linter.unusedVariables false
namespace Go.Proofs.YthlfmbbaomdciaaGreatDoor
open Go Go.RowKit
theorem km : type_of% @Tryz.underlying90 := @Tryz.underlying90
set_option linter.unnecessarySimpa false
section
variable {w0 w : World} {D : List Nat} {L F : List Res} {rs A B C : List RD} {r : RD}
theorem SeesA.elem {α : Type} {f : α → List RD} {l : List α} (h : SeesA w (l.flatMap f)) {j : Nat} (d : α) (hj : j < l.length) : SeesA w (f (l.getD j d)) := fun q hq => h q (List.mem_flatMap.2 ⟨_, getD_mem hj, hq⟩)
theorem SeesAE.elem {α : Type} {f : α → List RD} {l : List α} (h : SeesAE w (l.flatMap f)) {j : Nat} (d : α) (hj : j < l.length) : SeesAE w (f (l.getD j d)) := fun q hq => h q (List.mem_flatMap.2 ⟨_, getD_mem hj, hq⟩)
end
section
variable {P : Program} {ops : Array Oper} {Q : Exit → Act → World → Prop} {n : Nat} {w0 : World} {D : List Nat} {L L' : List Res} {e : Env}
end
@[reducible] def xv (p : TX) : Value := .agg #[.int .i64 p.t.id, .int .i64 p.t.age, .int .i64 p.t.proc, .int .i64 p.t.began, .slice p.x.a0 p.t.calls.length p.x.c0, .slice p.x.a1 p.t.ans.length p.x.c1, .slice p.x.a2 p.t.rd.length p.x.c2, .slice p.x.a3 p.t.wr.length p.x.c3, .slice p.x.a4 p.t.marks.length p.x.c4, .int .i64 p.t.state]
theorem encX_len (p : TX) : (encX p).length = 10 := rfl
def rdsXS (a : Option Addr) (c : Nat) (l : List TX) : List RD := ⟨.slice a l.length c, 35, 10, l.length, l.flatMap encX⟩ :: l.flatMap rdsX
theorem any_none {α : Type} {p : α → Bool} {l : List α} {j : Nat} (d : α) (hj : l.length ≤ j) (hN : ∀ i, i < j → p (l.getD i d) = false) : l.any p = false := by
 rw [List.any_eq_false]
 intro x hx
 obtain ⟨i, hi, rfl⟩ := List.mem_iff_getElem.1 hx
 have := hN i (by omega)
 rw [List.getD_eq_getElem?_getD, List.getElem?_eq_getElem hi] at this
 simpa using this
theorem any_found {α : Type} {p : α → Bool} {l : List α} {j : Nat} (d : α) (hj : j < l.length) (h : p (l.getD j d) = true) : l.any p = true := List.any_eq_true.2 ⟨_, getD_mem hj, h⟩
def meets (a b : Str) : Bool := if (cutSuf a [42]).2 = true ∧ (cutSuf b [42]).2 = true then prefixB (cutSuf a [42]).1 (cutSuf b [42]).1 || prefixB (cutSuf b [42]).1 (cutSuf a [42]).1 else if (cutSuf a [42]).2 = true then prefixB b (cutSuf a [42]).1 else spanHas b a
def meetAny (a b : List Str) : Bool := a.any fun x => b.any fun y => meets x y
theorem meets_comm (a b : Str) : meets a b = meets b a := by
 unfold meets spanHas
 cases ha : (cutSuf a [42]).2 <;> cases hb : (cutSuf b [42]).2 <;> simp [ha, hb, Bool.or_comm, eq_comm]
theorem meetAny_comm (a b : List Str) : meetAny a b = meetAny b a := by
 unfold meetAny
 rw [Bool.eq_iff_iff]
 simp only [List.any_eq_true]
 constructor
 · rintro ⟨x, hx, y, hy, h⟩; exact ⟨y, hy, x, hx, by rw [meets_comm]; exact h⟩
 · rintro ⟨x, hx, y, hy, h⟩; exact ⟨y, hy, x, hx, by rw [meets_comm]; exact h⟩
def clashT (r w r' w' : List Str) : Bool := meetAny w r' || (meetAny w w' || meetAny w' r)
theorem meetAny_none {x y : List Str} {j : Nat} (hj : x.length ≤ j) (hN : ∀ i, i < j → (y.any fun q => meets (x.getD i []) q) = false) : meetAny x y = false := any_none [] hj hN
theorem meetAny_found {x y : List Str} {j : Nat} (hj : j < x.length) (h : (y.any fun q => meets (x.getD j []) q) = true) : meetAny x y = true := any_found [] hj h
def bothLive (x y : TD) : Bool := decide (x.state = 1) && (decide (y.state = 1) && clashT x.rd x.wr y.rd y.wr)
def apartX (l : List TX) : Bool := rall l.length fun i => rall i fun k => !bothLive (l.getD i x0).t (l.getD k x0).t
def apartAll (l : List TD) : Bool := rall l.length fun i => rall i fun k => !bothLive (l.getD i x0.t) (l.getD k x0.t)
theorem getD_map' {α β : Type} {f : α → β} {l : List α} {i : Nat} {d : α} : (l.map f).getD i (f d) = f (l.getD i d) := by
 rw [List.getD_eq_getElem?_getD, List.getD_eq_getElem?_getD, List.getElem?_map]
 cases l[i]? <;> rfl
theorem apart_map (l : List TX) : apartAll (l.map TX.t) = apartX l := by
 unfold apartAll apartX
 simp only [List.length_map, getD_map']
end Go.Proofs.YthlfmbbaomdciaaGreatDoor
set_option maxHeartbeats 4000000
set_option maxRecDepth 4000
namespace Go.Proofs.YthlfmbbaomdciaaGreatDoor
open Go Go.RowKit
attribute [local irreducible] JL JC JQ JO LO PO JA JX Ct
theorem Y_iSpanHas (a : Str) (b : Str) (ha : a.length ≤ 9223372036854775807) (hb : b.length ≤ 9223372036854775807) :
   Ct Tryz.prog 362 [str a, str b] ([]) (fun _ => True) (fun v A' => ∃ r0, spanHas a b = r0 ∧ v = .bool r0 ∧ A' = []) := by
 refine Ct.intro Tryz.func362 rfl Tryz.ntmps362 (lb rfl) fun w0 hpre => ?_
 refine go ?_
 refine jA [] (N_cutSuffix a [42] (by omega)) ?_
 rintro _ _ ⟨u_3, b_5, e_1, f_4, rfl, rfl⟩
 refine go ?_
 rcases Bool.eq_false_or_eq_true (b_5) with h_6 | h_6
 · refine go ?_
   refine jA [] (N_hasPrefix b u_3) ?_
   rintro _ _ ⟨b_9, e_7, rfl, rfl⟩
   refine go ?_
   exact jJ [] ⟨b_9, (by simp only [spanHas, SB, e_1, h_6, e_7]; all_goals (first | rfl | (simp_all; done) | (simp_all [spanHas]; done))), rfl, rfl⟩
 refine go ?_
 exact jJ [] ⟨(decide (a = b)), (by simp only [spanHas, SB, e_1, h_6]; all_goals (first | rfl | (simp_all; done) | (simp_all [spanHas]; done))), rfl, rfl⟩

theorem Y_iMeet (a : Str) (b : Str) (ha : a.length ≤ 9223372036854775807) (hb : b.length ≤ 9223372036854775807) :
   Ct Tryz.prog 338 [str a, str b] ([]) (fun _ => True) (fun v A' => ∃ r0, meets a b = r0 ∧ v = .bool r0 ∧ A' = []) := by
 refine Ct.intro Tryz.func338 rfl Tryz.ntmps338 (lb rfl) fun w0 hpre => ?_
 refine go ?_
 refine jA [] (N_cutSuffix a [42] (by omega)) ?_
 rintro _ _ ⟨u_3, b_5, e_1, f_4, rfl, rfl⟩
 refine go ?_
 refine jA [] (N_cutSuffix b [42] (by omega)) ?_
 rintro _ _ ⟨u_8, b_10, e_6, f_9, rfl, rfl⟩
 refine go ?_
 rcases Bool.eq_false_or_eq_true (b_5) with h_11 | h_11
 · refine go ?_
   rcases Bool.eq_false_or_eq_true (b_10) with h_12 | h_12
   · refine go ?_
     refine jA [] (N_hasPrefix u_3 u_8) ?_
     rintro _ _ ⟨b_15, e_13, rfl, rfl⟩
     refine go ?_
     rcases Bool.eq_false_or_eq_true (b_15) with h_16 | h_16
     · refine go ?_
       exact jJ [] ⟨true, (by simp only [meets, spanHas, SB, e_1, e_6, h_11, h_12, e_13, h_16]; all_goals (first | rfl | (simp_all; done) | (simp_all [meets, spanHas]; done))), rfl, rfl⟩
     refine go ?_
     refine jW rfl rfl rfl (cB h_16) (jO [] Tryz.call361 rfl (N_hasPrefix u_8 u_3) rfl (fun _ _ => trivial)) ?_
     rintro _ _ ⟨_, ⟨b_19, e_17, rfl, rfl⟩, rfl⟩
     refine go ?_
     exact jJ [] ⟨b_19, (by simp only [meets, spanHas, SB, e_1, e_6, h_11, h_12, e_13, h_16, e_17]; all_goals (first | rfl | (simp_all; done) | (simp_all [meets, spanHas]; done))), rfl, rfl⟩
   refine go ?_
   refine jA [] (Y_iSpanHas a b (by omega) (by omega)) ?_
   rintro _ _ ⟨b_22, e_20, rfl, rfl⟩
   refine go ?_
   exact jJ [] ⟨b_22, (by simp only [meets, spanHas, SB, e_1, e_6, h_11, h_12, e_20]; all_goals (first | rfl | (simp_all; done) | (simp_all [meets, spanHas]; done))), rfl, rfl⟩
 refine go ?_
 refine jA [] (Y_iSpanHas b a (by omega) (by omega)) ?_
 rintro _ _ ⟨b_25, e_23, rfl, rfl⟩
 refine go ?_
 exact jJ [] ⟨b_25, (by simp only [meets, spanHas, SB, e_1, e_6, h_11, e_23]; all_goals (first | rfl | (simp_all; done) | (simp_all [meets, spanHas]; done))), rfl, rfl⟩

theorem Y_sMeet (a : Str) (b : Str) (ha : a.length ≤ 9223372036854775807) (hb : b.length ≤ 9223372036854775807) :
   Ct Tryz.prog 264 [str a, str b] ([]) (fun _ => True) (fun v A' => ∃ r0, meets a b = r0 ∧ v = .bool r0 ∧ A' = []) := by
 refine Ct.intro Tryz.func264 rfl Tryz.ntmps264 (lb rfl) fun w0 hpre => ?_
 refine go ?_
 refine jA [] (Y_open a (by omega)) ?_
 rintro _ _ ⟨u_3, b_5, e_1, f_4, rfl, rfl⟩
 refine go ?_
 refine jA [] (Y_open b (by omega)) ?_
 rintro _ _ ⟨u_8, b_10, e_6, f_9, rfl, rfl⟩
 refine go ?_
 rcases Bool.eq_false_or_eq_true (b_5) with h_11 | h_11
 · refine go ?_
   rcases Bool.eq_false_or_eq_true (b_10) with h_12 | h_12
   · refine go ?_
     refine jA [] (Y_begins u_3 u_8 (by omega) (by omega)) ?_
     rintro _ _ ⟨b_15, e_13, rfl, rfl⟩
     refine go ?_
     rcases Bool.eq_false_or_eq_true (b_15) with h_16 | h_16
     · refine go ?_
       exact jJ [] ⟨true, (by simp only [meets, spanHas, SB, e_1, e_6, h_11, h_12, e_13, h_16]; all_goals (first | rfl | (simp_all; done) | (simp_all [meets, spanHas]; done))), rfl, rfl⟩
     refine go ?_
     refine jW rfl rfl rfl (cB h_16) (jO [] Tryz.call145 rfl (Y_begins u_8 u_3 (by omega) (by omega)) rfl (fun _ _ => trivial)) ?_
     rintro _ _ ⟨_, ⟨b_19, e_17, rfl, rfl⟩, rfl⟩
     refine go ?_
     exact jJ [] ⟨b_19, (by simp only [meets, spanHas, SB, e_1, e_6, h_11, h_12, e_13, h_16, e_17]; all_goals (first | rfl | (simp_all; done) | (simp_all [meets, spanHas]; done))), rfl, rfl⟩
   refine go ?_
   refine jA [] (Y_begins b u_3 (by omega) (by omega)) ?_
   rintro _ _ ⟨b_22, e_20, rfl, rfl⟩
   refine go ?_
   exact jJ [] ⟨b_22, (by simp only [meets, spanHas, SB, e_1, e_6, h_11, h_12, e_20]; all_goals (first | rfl | (simp_all; done) | (simp_all [meets, spanHas]; done))), rfl, rfl⟩
 refine go ?_
 refine jA [] (Y_sSpanHas b a (by omega) (by omega)) ?_
 rintro _ _ ⟨b_25, e_23, rfl, rfl⟩
 refine go ?_
 exact jJ [] ⟨b_25, (by simp only [meets, spanHas, SB, e_1, e_6, h_11, e_23]; all_goals (first | rfl | (simp_all; done) | (simp_all [meets, spanHas]; done))), rfl, rfl⟩

theorem N_meet1 (kb : Nat) (key y : Str) (hkey : key.length ≤ 9223372036854775807) (hyy : y.length ≤ 9223372036854775807) :
   Ct Tryz.prog 337 [str y, .pointer (some ⟨kb, 0, none⟩)] [bk kb 9 [str key]] (fun _ => True) (fun v A' => v = .bool (meets key y) ∧ A' = [bk kb 9 [str key]]) := by
 refine Ct.intro Tryz.func337 rfl Tryz.ntmps337 (lb rfl) fun w0 hpre => ?_
 refine go ?_
 refine jA [] (Y_iMeet key y hkey hyy) ?_
 rintro _ _ ⟨_, rfl, rfl, rfl⟩
 refine go ?_
 refine jE (.inl rfl) rfl (jC (v := .bool (meets key y)) rfl) (List.Sublist.refl _) ?_
 exact ⟨rfl, rfl⟩

theorem C_ixMeet (a : Option Addr) (c : Nat) (s : List Str) (hs : okS s) (kb : Nat) (key : Str) (hkey : key.length ≤ 9223372036854775807) :
   Ct Tryz.prog 277 [.slice a s.length c, .func (.func 337) #[] #[.pointer (some ⟨kb, 0, none⟩)]] [bk kb 9 [str key]] (fun w_ => Sees w_ (.slice a s.length c) 1 s.length (s.map str) ∧ (∀ b, (Value.slice a s.length c).ownBlock = some b → b ≠ kb)) (fun v A' => v = .int .i64 (idxI (fun q => meets key q) s) ∧ A' = [bk kb 9 [str key]]) := by
 refine Ct.intro Tryz.func277 rfl Tryz.ntmps277 (lb rfl) fun w0 hpre => ?_
 have hs_a : Sees w0 _ _ _ _ := hpre.1
 have hsl := hs.1
 refine go ?_
 refine jL (fun k_ e_ L_ => ∃ j : Nat, (j ≤ s.length) ∧ (∀ i, i < j → meets key (s.getD i []) = false) ∧ EL e_ [(0, .slice a s.length c), (1, .func (.func 337) #[] #[.pointer (some ⟨kb, 0, none⟩)]), (7, nv s.length), (8, nv j)] ∧ L_ = [bk kb 9 [str key]] ∧ k_ = s.length - j) _ ⟨0, by omega, (fun i hi => absurd hi (Nat.not_lt_zero i)), EL.go, rfl, rfl⟩ ?_
 rintro _ _ _ ⟨j, hj, hN, ⟨_, rfl⟩, rfl, rfl⟩
 refine go ?_
 by_cases h_1 : ((j : Nat) : Int) < ((s.length : Nat) : Int)
 · have hlt : j < s.length := by omega
   refine go ?_
   obtain ⟨hr_2, hr_2b, -⟩ := sees_some hs_a (by omega)
   refine go ?_
   refine jU (jY (v := str (s.getD j [])) hs_a (notin_bk hpre.2) rfl kJ (atS (by omega))) ?_
   refine jF rfl (JO.callV [0] Tryz.call337 rfl (N_meet1 kb key (s.getD j []) hkey (hs.2 j hlt)) rfl rfl (fun _ _ => trivial)) ?_
   rintro _ _ ⟨_, ⟨rfl, rfl⟩, rfl⟩
   refine go ?_
   rcases Bool.eq_false_or_eq_true (meets key (s.getD j [])) with h_3 | h_3
   · refine go ?_
     refine jE (.inl rfl) rfl (jC (v := nv j) rfl) (List.Sublist.refl _) ?_
     refine ⟨?_, rfl⟩
     rw [idxI_found [] hlt hN h_3]
   refine go ?_
   refine jV (s.length - (j + 1)) (by omega) ⟨j + 1, by omega, (fun i hi => if h : i = j then h ▸ h_3 else hN i (by omega)), EL.go, rfl, rfl⟩
 refine go ?_
 refine jE (.inl rfl) rfl (jC (v := iv (-1)) rfl) (List.Sublist.refl _) ?_
 refine ⟨?_, rfl⟩
 rw [idxI_none [] (by omega) hN]

theorem C_ctMeet (a : Option Addr) (c : Nat) (s : List Str) (hs : okS s) (kb : Nat) (key : Str) (hkey : key.length ≤ 9223372036854775807) :
   Ct Tryz.prog 258 [.slice a s.length c, .func (.func 337) #[] #[.pointer (some ⟨kb, 0, none⟩)]] [bk kb 9 [str key]] (fun w_ => Sees w_ (.slice a s.length c) 1 s.length (s.map str) ∧ (∀ b, (Value.slice a s.length c).ownBlock = some b → b ≠ kb)) (fun v A' => v = .bool (s.any fun q => meets key q) ∧ A' = [bk kb 9 [str key]]) := by
 refine Ct.intro Tryz.func258 rfl Tryz.ntmps258 (lb rfl) fun w0 hpre => ?_
 have hs_a : Sees w0 _ _ _ _ := hpre.1
 refine go ?_
 refine jN [0] (C_ixMeet a c s hs kb key hkey) (hpre := fun w hw => ⟨hw.seeOut_ hs_a (notin_bk hpre.2), hpre.2⟩) ?_
 refine go ?_
 refine jE (.inl rfl) rfl (jC (v := .bool (decide (0 ≤ (idxI (fun q => meets key q) s)))) rfl) (List.Sublist.refl _) ?_
 exact ⟨cB idxI_any, rfl⟩

theorem Y_iMeetAny (a1 a2 : Option Addr) (c1 c2 : Nat) (x y : List Str) (hx : okS x) (hy : okS y) :
   Ct Tryz.prog 263 [.slice a1 x.length c1, .slice a2 y.length c2] [] (fun w_ => Sees w_ (.slice a1 x.length c1) 1 x.length (x.map str) ∧ Sees w_ (.slice a2 y.length c2) 1 y.length (y.map str)) (fun v A' => v = .bool (meetAny x y) ∧ A' = []) := by
 refine Ct.intro Tryz.func263 rfl Tryz.ntmps263 (lb rfl) fun w0 hpre => ?_
 have hs_a1 : Sees w0 _ _ _ _ := hpre.1
 have hs_a2 : Sees w0 _ _ _ _ := hpre.2
 have hxl := hx.1
 have hyl := hy.1
 refine go ?_
 refine jL (fun k_ e_ L_ => ∃ j : Nat, (j ≤ x.length) ∧ (∀ i, i < j → (y.any fun q => meets (x.getD i []) q) = false) ∧ EL e_ [(1, .slice a2 y.length c2), (7, .slice a1 x.length c1), (8, nv x.length), (9, nv j)] ∧ L_ = [] ∧ k_ = x.length - j) _ ⟨0, by omega, (fun i hi => absurd hi (Nat.not_lt_zero i)), EL.go, rfl, rfl⟩ ?_
 rintro _ _ _ ⟨j, hj, hN, ⟨_, rfl⟩, rfl, rfl⟩
 refine go ?_
 by_cases h_1 : ((j : Nat) : Int) < ((x.length : Nat) : Int)
 · have hlt : j < x.length := by omega
   refine go ?_
   obtain ⟨hr_2, hr_2b, -⟩ := sees_some hs_a1 (by omega)
   refine go ?_
   refine jU (jY (v := str (x.getD j [])) hs_a1 nM rfl kJ (atS (by omega))) ?_
   refine jG [str []] fun b_3 => ?_
   refine jD 0 [str (x.getD j [])] ?_
   refine go ?_
   refine jK (PO.makeFunc (fv := []) (cv := [.pointer (some ⟨b_3, 0, none⟩)]) rfl rfl) ?_
   refine jN [0] (C_ctMeet a2 c2 y hy b_3 (x.getD j []) (hx.2 j hlt)) (hpre := fun w hw => ⟨hw.seeOut_ hs_a2 nM, hw.apartF 0 hs_a2 rfl List.not_mem_nil⟩) ?_
   refine go ?_
   rcases Bool.eq_false_or_eq_true ((y.any fun q => meets (x.getD j []) q)) with h_4 | h_4
   · refine go ?_
     refine jE (.inl rfl) rfl (jC (v := .bool true) rfl) (List.nil_sublist _) ?_
     exact ⟨cB (meetAny_found hlt h_4).symm, rfl⟩
   refine go ?_
   exact jP [] ⟨j + 1, by omega, (fun i hi => if h : i = j then h ▸ h_4 else hN i (by omega)), EL.go, rfl, rfl⟩
 refine go ?_
 refine jE (.inl rfl) rfl (jC (v := .bool false) rfl) (List.nil_sublist _) ?_
 exact ⟨cB (meetAny_none (by omega) hN).symm, rfl⟩

theorem Y_sMeetAny (a1 a2 : Option Addr) (c1 c2 : Nat) (x y : List Str) (hx : okS x) (hy : okS y) :
   Ct Tryz.prog 147 [.slice a1 x.length c1, .slice a2 y.length c2] [] (fun w_ => Sees w_ (.slice a1 x.length c1) 1 x.length (x.map str) ∧ Sees w_ (.slice a2 y.length c2) 1 y.length (y.map str)) (fun v A' => v = .bool (meetAny x y) ∧ A' = []) := by
 refine Ct.intro Tryz.func147 rfl Tryz.ntmps147 (lb rfl) fun w0 hpre => ?_
 have hs_a1 : Sees w0 _ _ _ _ := hpre.1
 have hs_a2 : Sees w0 _ _ _ _ := hpre.2
 have hxl := hx.1
 have hyl := hy.1
 refine go ?_
 refine jL (fun k_ e_ L_ => ∃ j : Nat, (j ≤ x.length) ∧ (∀ i, i < j → (y.any fun q => meets (x.getD i []) q) = false) ∧ EL e_ [(0, .slice a1 x.length c1), (1, .slice a2 y.length c2), (5, nv j)] ∧ L_ = [] ∧ k_ = x.length - j) _ ⟨0, by omega, (fun i hi => absurd hi (Nat.not_lt_zero i)), EL.go, rfl, rfl⟩ ?_
 rintro _ _ _ ⟨j, hj, hN, ⟨_, rfl⟩, rfl, rfl⟩
 refine go ?_
 by_cases h_1 : ((j : Nat) : Int) < ((x.length : Nat) : Int)
 · have hlt : j < x.length := by omega
   refine go ?_
   refine jL (fun k_ e_ L_ => ∃ k2 : Nat, (k2 ≤ y.length) ∧ (∀ i, i < k2 → meets (x.getD j []) (y.getD i []) = false) ∧ EL e_ [(0, .slice a1 x.length c1), (1, .slice a2 y.length c2), (5, nv j), (6, nv k2)] ∧ L_ = [] ∧ k_ = y.length - k2) _ ⟨0, by omega, (fun i hi => absurd hi (Nat.not_lt_zero i)), EL.go, rfl, rfl⟩ ?_
   rintro _ _ _ ⟨k2, hk2, hM, ⟨_, rfl⟩, rfl, rfl⟩
   refine go ?_
   by_cases h_2 : ((k2 : Nat) : Int) < ((y.length : Nat) : Int)
   · have hlt2 : k2 < y.length := by omega
     refine go ?_
     refine jH [] 8 ?_
     refine go ?_
     obtain ⟨hr_3, hr_3b, -⟩ := sees_some hs_a1 (by omega)
     refine go ?_
     refine jk 3 rfl (jY (v := str (x.getD j [])) hs_a1 nM rfl kJ (atS (by omega))) ?_
     refine go ?_
     obtain ⟨hr_4, hr_4b, -⟩ := sees_some hs_a2 (by omega)
     refine go ?_
     refine jk 7 rfl (jY (v := str (y.getD k2 [])) hs_a2 nM rfl kJ (atS (by omega))) ?_
     refine jB (i := 8) ?_
     refine JX.ce [] (Y_sMeet (x.getD j []) (y.getD k2 []) (hx.2 j hlt) (hy.2 k2 hlt2)) ?_
     rintro _ _ ⟨_, rfl, rfl, rfl⟩
     refine go ?_
     rcases Bool.eq_false_or_eq_true (meets (x.getD j []) (y.getD k2 [])) with h_5 | h_5
     · refine go ?_
       refine jE (.inl rfl) rfl (jC (v := .bool true) rfl) (List.nil_sublist _) ?_
       exact ⟨cB (meetAny_found hlt (any_found [] hlt2 h_5)).symm, rfl⟩
     refine go ?_
     refine jV (y.length - (k2 + 1)) (by omega) ⟨k2 + 1, by omega, (fun i hi => if h : i = k2 then h ▸ h_5 else hM i (by omega)), EL.go, rfl, rfl⟩
   refine go ?_
   refine jV (x.length - (j + 1)) (by omega) ⟨j + 1, by omega, (fun i hi => if h : i = j then h ▸ (any_none [] (by omega) hM) else hN i (by omega)), EL.go, rfl, rfl⟩
 refine go ?_
 refine jE (.inl rfl) rfl (jC (v := .bool false) rfl) (List.nil_sublist _) ?_
 exact ⟨cB (meetAny_none (by omega) hN).symm, rfl⟩

theorem Y_implClash (a1 a2 b1 b2 : Option Addr) (c1 c2 d1 d2 : Nat) (r w r' w' : List Str) (hr : okS r) (hw : okS w) (hr' : okS r') (hw' : okS w') :
   Ct Tryz.prog 146 [.agg #[.slice a1 r.length c1, .slice a2 w.length c2], .agg #[.slice b1 r'.length d1, .slice b2 w'.length d2]] [] (fun w_ => Sees w_ (.slice a1 r.length c1) 1 r.length (r.map str) ∧ Sees w_ (.slice a2 w.length c2) 1 w.length (w.map str) ∧ Sees w_ (.slice b1 r'.length d1) 1 r'.length (r'.map str) ∧ Sees w_ (.slice b2 w'.length d2) 1 w'.length (w'.map str)) (fun v A' => v = .bool (clashT r w r' w') ∧ A' = []) := by
 refine Ct.intro Tryz.func146 rfl Tryz.ntmps146 (lb rfl) fun w0 hpre => ?_
 refine go ?_
 refine jM [.slice a1 r.length c1, .slice a2 w.length c2] fun b_1 => ?_
 refine jM [.slice b1 r'.length d1, .slice b2 w'.length d2] fun b_2 => ?_
 refine go ?_
 refine jN [] (Y_iMeetAny a2 b1 c2 d1 w r' hw hr') (hpre := fun w_ hw_ => ⟨hw_.seeOut_ hpre.2.1 nM, hw_.seeOut_ hpre.2.2.1 nM⟩) ?_
 refine go ?_
 rcases Bool.eq_false_or_eq_true (meetAny w r') with h_3 | h_3
 · refine go ?_
   refine jE (.inl rfl) rfl (jC (v := .bool true) rfl) (List.nil_sublist _) ?_
   exact ⟨by rw [clashT]; simp_all, rfl⟩
 refine go ?_
 refine jW rfl rfl rfl (cB h_3) (jO [] Tryz.call263 rfl (Y_iMeetAny a2 b2 c2 d2 w w' hw hw') rfl (fun w_ hw_ => ⟨hw_.seeOut_ hpre.2.1 nM, hw_.seeOut_ hpre.2.2.2 nM⟩)) ?_
 rintro _ _ ⟨_, ⟨rfl, rfl⟩, rfl⟩
 refine go ?_
 rcases Bool.eq_false_or_eq_true (meetAny w w') with h_4 | h_4
 · refine go ?_
   refine jE (.inl rfl) rfl (jC (v := .bool true) rfl) (List.nil_sublist _) ?_
   exact ⟨by rw [clashT]; simp_all, rfl⟩
 refine go ?_
 refine jW rfl rfl rfl (cB h_4) (jO [] Tryz.call263 rfl (Y_iMeetAny b2 a1 d2 c1 w' r hw' hr) rfl (fun w_ hw_ => ⟨hw_.seeOut_ hpre.2.2.2 nM, hw_.seeOut_ hpre.1 nM⟩)) ?_
 rintro _ _ ⟨_, ⟨rfl, rfl⟩, rfl⟩
 refine go ?_
 refine jE (.inl rfl) rfl (jC (v := .bool (meetAny w' r)) rfl) (List.nil_sublist _) ?_
 exact ⟨by rw [clashT]; simp_all, rfl⟩

theorem Y_specClash (a1 a2 b1 b2 : Option Addr) (c1 c2 d1 d2 : Nat) (r w r' w' : List Str) (hr : okS r) (hw : okS w) (hr' : okS r') (hw' : okS w') :
   Ct Tryz.prog 61 [.agg #[.slice a1 r.length c1, .slice a2 w.length c2], .agg #[.slice b1 r'.length d1, .slice b2 w'.length d2]] [] (fun w_ => Sees w_ (.slice a1 r.length c1) 1 r.length (r.map str) ∧ Sees w_ (.slice a2 w.length c2) 1 w.length (w.map str) ∧ Sees w_ (.slice b1 r'.length d1) 1 r'.length (r'.map str) ∧ Sees w_ (.slice b2 w'.length d2) 1 w'.length (w'.map str)) (fun v A' => v = .bool (clashT r w r' w') ∧ A' = []) := by
 refine Ct.intro Tryz.func61 rfl Tryz.ntmps61 (lb rfl) fun w0 hpre => ?_
 refine go ?_
 refine jM [.slice a1 r.length c1, .slice a2 w.length c2] fun b_1 => ?_
 refine jM [.slice b1 r'.length d1, .slice b2 w'.length d2] fun b_2 => ?_
 refine go ?_
 refine jN [] (Y_sMeetAny a2 b1 c2 d1 w r' hw hr') (hpre := fun w_ hw_ => ⟨hw_.seeOut_ hpre.2.1 nM, hw_.seeOut_ hpre.2.2.1 nM⟩) ?_
 refine go ?_
 rcases Bool.eq_false_or_eq_true (meetAny w r') with h_3 | h_3
 · refine go ?_
   refine jE (.inl rfl) rfl (jC (v := .bool true) rfl) (List.nil_sublist _) ?_
   exact ⟨by rw [clashT, meetAny_comm w' r]; simp_all, rfl⟩
 refine go ?_
 refine jW rfl rfl rfl (cB h_3) (jO [] Tryz.call147 rfl (Y_sMeetAny a2 b2 c2 d2 w w' hw hw') rfl (fun w_ hw_ => ⟨hw_.seeOut_ hpre.2.1 nM, hw_.seeOut_ hpre.2.2.2 nM⟩)) ?_
 rintro _ _ ⟨_, ⟨rfl, rfl⟩, rfl⟩
 refine go ?_
 rcases Bool.eq_false_or_eq_true (meetAny w w') with h_4 | h_4
 · refine go ?_
   refine jE (.inl rfl) rfl (jC (v := .bool true) rfl) (List.nil_sublist _) ?_
   exact ⟨by rw [clashT, meetAny_comm w' r]; simp_all, rfl⟩
 refine go ?_
 refine jW rfl rfl rfl (cB h_4) (jO [] Tryz.call147 rfl (Y_sMeetAny a1 b2 c1 d2 r w' hr hw') rfl (fun w_ hw_ => ⟨hw_.seeOut_ hpre.1 nM, hw_.seeOut_ hpre.2.2.2 nM⟩)) ?_
 rintro _ _ ⟨_, ⟨rfl, rfl⟩, rfl⟩
 refine go ?_
 refine jE (.inl rfl) rfl (jC (v := .bool (meetAny r w')) rfl) (List.nil_sublist _) ?_
 exact ⟨by rw [clashT, meetAny_comm w' r]; simp_all, rfl⟩

set_option maxRecDepth 4000 in
theorem Y_implApart (a : Option Addr) (c : Nat) (l : List TX) (hn : l.length ≤ 1000000000) (hz : ∀ j, j < l.length → okS (l.getD j x0).t.rd ∧ okS (l.getD j x0).t.wr) :
   Ct Tryz.prog 60 [.slice a l.length c] [] (fun w => SeesA w (rdsXS a c l)) (fun v A' => v = .bool (apartAll (l.map TX.t)) ∧ A' = []) := by
 refine Ct.intro Tryz.func60 rfl Tryz.ntmps60 (lb rfl) fun w0 hpre => ?_
 have hs_1 : Sees w0 (.slice a l.length c) 10 l.length (l.flatMap encX) := (hpre).head
 have hi_2 : SeesA w0 (l.flatMap rdsX) := (hpre).tail
 refine go ?_
 refine jL (fun k_ e_ L_ => ∃ j : Nat, (j ≤ l.length) ∧ (∀ i, i < j → (rall i fun k => !bothLive (l.getD i x0).t (l.getD k x0).t) = true) ∧ EL e_ [(0, .slice a l.length c), (7, .slice a l.length c), (8, nv l.length), (9, nv j)] ∧ L_ = [] ∧ k_ = l.length - j) _ ⟨0, by omega, (fun i hi => absurd hi (Nat.not_lt_zero i)), EL.go, rfl, rfl⟩ ?_
 rintro _ _ _ ⟨j, hj, hN, ⟨_, rfl⟩, rfl, rfl⟩
 refine go ?_
 by_cases h_3 : ((j : Nat) : Int) < ((l.length : Nat) : Int)
 · have hlt : j < l.length := by omega
   refine go ?_
   obtain ⟨hr_4, hr_4b, -⟩ := sees_some hs_1 (by omega)
   refine go ?_
   have hi_5 := SeesA.elem hi_2 x0 (show j < l.length by omega)
   obtain ⟨hs_6, hs_7, hs_8, hs_9, hs_10⟩ := seesX hi_5
   refine jU (jj (vs := (xc (l.getD j x0))) hs_1 nM rfl kT kQ (flat_take encX_len x0 l j (by omega)) rfl (by decide)) ?_
   refine jG xzc fun b_11 => ?_
   refine go ?_
   refine jD 0 (xc (l.getD j x0)) ?_
   refine go ?_
   obtain ⟨hf_12m, hf_12x, hf_12s, hf_12l⟩ := sees_fits hs_1
   refine jK (PO.sliceVh (j := j) km kQ hf_12s rfl rfl (by omega)) ?_
   refine go ?_
   refine jL (fun k_ e_ L_ => ∃ k2 : Nat, (k2 ≤ j) ∧ (∀ i, i < k2 → (!bothLive (l.getD j x0).t (l.getD i x0).t) = true) ∧ EL e_ [(0, .slice a l.length c), (4, .pointer (some ⟨b_11, 0, none⟩)), (7, .slice a l.length c), (8, nv l.length), (9, nv j), (16, .slice a j c), (17, nv j), (18, nv k2)] ∧ L_ = [bk b_11 35 (xc (l.getD j x0))] ∧ k_ = j - k2) _ ⟨0, by omega, (fun i hi => absurd hi (Nat.not_lt_zero i)), EL.go, rfl, rfl⟩ ?_
   rintro _ _ _ ⟨k2, hk2, hM, ⟨_, rfl⟩, rfl, rfl⟩
   refine go ?_
   by_cases h_13 : ((k2 : Nat) : Int) < ((j : Nat) : Int)
   · have hlt2 : k2 < j := by omega
     refine go ?_
     have hi_14 := SeesA.elem hi_2 x0 (show k2 < l.length by omega)
     obtain ⟨hs_15, hs_16, hs_17, hs_18, hs_19⟩ := seesX hi_14
     refine jU (jj (vs := (xc (l.getD k2 x0))) hs_1 nM rfl kT kQ (flat_take encX_len x0 l k2 (by omega)) rfl (by decide)) ?_
     refine jG xzc fun b_20 => ?_
     refine jD 0 (xc (l.getD k2 x0)) ?_
     refine go ?_
     by_cases h_21 : (l.getD j x0).t.state = 1
     · refine go ?_
       by_cases h_22 : (l.getD k2 x0).t.state = 1
       · refine go ?_
         refine jW rfl rfl rfl (cB (dT h_22)) (jO [] Tryz.call146 rfl (Y_implClash (l.getD j x0).x.a2 (l.getD j x0).x.a3 (l.getD k2 x0).x.a2 (l.getD k2 x0).x.a3 (l.getD j x0).x.c2 (l.getD j x0).x.c3 (l.getD k2 x0).x.c2 (l.getD k2 x0).x.c3 (l.getD j x0).t.rd (l.getD j x0).t.wr (l.getD k2 x0).t.rd (l.getD k2 x0).t.wr (hz j (by omega)).1 (hz j (by omega)).2 (hz k2 (by omega)).1 (hz k2 (by omega)).2) rfl (fun w hw => ⟨hw.seeOut_ hs_8 nM, hw.seeOut_ hs_9 nM, hw.seeOut_ hs_17 nM, hw.seeOut_ hs_18 nM⟩)) ?_
         rintro _ _ ⟨_, ⟨rfl, rfl⟩, rfl⟩
         refine go ?_
         rcases Bool.eq_false_or_eq_true (clashT (l.getD j x0).t.rd (l.getD j x0).t.wr (l.getD k2 x0).t.rd (l.getD k2 x0).t.wr) with h_23 | h_23
         · refine go ?_
           refine jE (.inl rfl) rfl (jC (v := .bool false) rfl) (List.nil_sublist _) ?_
           exact ⟨cB ((apart_map l).trans (rall_false hlt (rall_false hlt2 (by simp [-List.getD_eq_getElem?_getD, bothLive, (dT h_21), h_21, (dT h_22), h_22, h_23])))).symm, rfl⟩
         refine go ?_
         exact jP [1] ⟨k2 + 1, by omega, (fun i hi => if h : i = k2 then h ▸ (by simp [-List.getD_eq_getElem?_getD, bothLive, (dT h_21), h_21, (dT h_22), h_22, h_23]) else hM i (by omega)), EL.go, rfl, rfl⟩
       refine go ?_
       exact jP [1] ⟨k2 + 1, by omega, (fun i hi => if h : i = k2 then h ▸ (by simp [-List.getD_eq_getElem?_getD, bothLive, (dT h_21), h_21, (dF h_22), h_22]) else hM i (by omega)), EL.go, rfl, rfl⟩
     refine go ?_
     exact jP [1] ⟨k2 + 1, by omega, (fun i hi => if h : i = k2 then h ▸ (by simp [-List.getD_eq_getElem?_getD, bothLive, (dF h_21), h_21]) else hM i (by omega)), EL.go, rfl, rfl⟩
   refine go ?_
   exact jP [] ⟨j + 1, by omega, (fun i hi => if h : i = j then h ▸ (rall_true fun i hi => hM i (by omega)) else hN i (by omega)), EL.go, rfl, rfl⟩
 refine go ?_
 refine jE (.inl rfl) rfl (jC (v := .bool true) rfl) (List.nil_sublist _) ?_
 exact ⟨cB ((apart_map l).trans (rall_true fun i hi => hN i (by omega))).symm, rfl⟩
end Go.Proofs.YthlfmbbaomdciaaGreatDoor
