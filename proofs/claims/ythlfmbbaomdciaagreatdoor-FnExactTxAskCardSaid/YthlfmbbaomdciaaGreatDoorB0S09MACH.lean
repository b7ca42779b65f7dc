/-
Texts of the walk, joined: what each one proves stands at its theorems.
-/
import Derived.Test.YthlfmbbaomdciaaGreatDoorB0Sc
set_option linter.unusedSimpArgs false
set_option linter.unusedVariables false
set_option linter.unnecessarySimpa false
set_option maxHeartbeats 4000000
set_option maxRecDepth 4000
namespace Go.Proofs.YthlfmbbaomdciaaGreatDoor
open Go Go.RowKit
attribute [local irreducible] JL JC JQ JO LO PO JA JX Ct
theorem C_within (n lo hi : Int) :
   Ct Tryz.prog 109 [.int .i64 n, .int .i64 lo, .int .i64 hi] [] (fun _ => True) (fun v A' => v = .bool (decide (lo ≤ n) && decide (n ≤ hi)) ∧ A' = []) := by
 refine Ct.intro Tryz.func109 rfl Tryz.ntmps109 (lb rfl) fun w0 hpre => ?_
 refine go ?_
 by_cases h_1 : lo ≤ n
 · refine go ?_
   refine jE (.inl rfl) rfl (jC (v := .bool (decide (n ≤ hi))) rfl) (List.nil_sublist _) ?_
   refine ⟨?_, rfl⟩
   simp_all <;> omega
 refine go ?_
 refine jE (.inl rfl) rfl (jC (v := .bool false) rfl) (List.nil_sublist _) ?_
 refine ⟨?_, rfl⟩
 simp_all <;> omega

theorem C_keyOk (key : Str) (hk : key.length ≤ 1000000000000) :
   Ct Tryz.prog 283 [str key] [] (fun _ => True) (fun v A' => v = .bool (keyOk key) ∧ A' = []) := by
 refine Ct.intro Tryz.func283 rfl Tryz.ntmps283 (lb rfl) fun w0 hpre => ?_
 refine go ?_
 refine jL (fun k_ e_ L_ => ∃ j : Nat, (j ≤ key.length) ∧ (∀ i, i < j → i < key.length → keyByte (key.getD i 0) = true) ∧ EL e_ [(0, str key), (5, iv (key.length : Int)), (6, nv j)] ∧ L_ = [] ∧ k_ = key.length - j) _ ⟨0, by omega, (fun i hi => absurd hi (Nat.not_lt_zero i)), EL.go, rfl, rfl⟩ ?_
 rintro _ _ _ ⟨j, hj, hN, ⟨_, rfl⟩, rfl, rfl⟩
 refine go ?_
 by_cases h_1 : ((j : Nat) : Int) < (key.length : Int)
 · refine go ?_
   have hu_2 := UInt8.toNat_lt (key.getD j 0)
   refine go ?_
   by_cases h_3 : ((key.getD j 0).toNat : Int) < 33
   · refine go ?_
     refine jE (.inl rfl) rfl (jC (v := .bool false) rfl) (List.nil_sublist _) ?_
     refine ⟨?_, rfl⟩
     rw [keyOk_bad (j := j) (by omega) (by simp only [keyByte, Bool.and_eq_true, Bool.and_eq_false_iff, decide_eq_true_eq, decide_eq_false_iff_not, Bool.not_eq_true', Bool.not_eq_false']; omega)]
   refine go ?_
   have hu_4 := UInt8.toNat_lt (key.getD j 0)
   refine go ?_
   by_cases h_5 : 126 < ((key.getD j 0).toNat : Int)
   · refine go ?_
     refine jE (.inl rfl) rfl (jC (v := .bool false) rfl) (List.nil_sublist _) ?_
     refine ⟨?_, rfl⟩
     rw [keyOk_bad (j := j) (by omega) (by simp only [keyByte, Bool.and_eq_true, Bool.and_eq_false_iff, decide_eq_true_eq, decide_eq_false_iff_not, Bool.not_eq_true', Bool.not_eq_false']; omega)]
   refine go ?_
   have hu_6 := UInt8.toNat_lt (key.getD j 0)
   refine go ?_
   by_cases h_7 : ((key.getD j 0).toNat : Int) = 42
   · refine go ?_
     refine jE (.inl rfl) rfl (jC (v := .bool false) rfl) (List.nil_sublist _) ?_
     refine ⟨?_, rfl⟩
     rw [keyOk_bad (j := j) (by omega) (by simp only [keyByte, Bool.and_eq_true, Bool.and_eq_false_iff, decide_eq_true_eq, decide_eq_false_iff_not, Bool.not_eq_true', Bool.not_eq_false']; omega)]
   refine go ?_
   refine jV (key.length - (j + 1)) (by omega) ⟨j + 1, by omega, (fun i hi hl => if h : i = j then h ▸ (by simp only [keyByte, Bool.and_eq_true, Bool.and_eq_false_iff, decide_eq_true_eq, decide_eq_false_iff_not, Bool.not_eq_true', Bool.not_eq_false']; omega : keyByte (key.getD j 0) = true) else hN i (by omega) hl), EL.go, rfl, rfl⟩
 refine go ?_
 refine jN [] (C_within (key.length : Int) 1 40) ?_
 refine go ?_
 refine jE (.inl rfl) rfl (jC (v := .bool (decide (1 ≤ (key.length : Int)) && decide ((key.length : Int) ≤ 40))) rfl) (List.nil_sublist _) ?_
 refine ⟨?_, rfl⟩
 rw [keyOk_good (j := j) (by omega) hN]
 exact cB (by congr 1 <;> exact decide_eq_decide.2 (by omega))

theorem C_cellAt1 (kb : Nat) (key : Str) (x : Cell) :
   Ct Tryz.prog 345 [.agg #[str x.1, str x.2], .pointer (some ⟨kb, 0, none⟩)] [bk kb 9 [str key]] (fun _ => True) (fun v A' => v = .bool (decide (x.1 = key)) ∧ A' = [bk kb 9 [str key]]) := by
 refine Ct.intro Tryz.func345 rfl Tryz.ntmps345 (lb rfl) fun w0 hpre => ?_
 refine go ?_
 refine jM [str x.1, str x.2] fun b_1 => ?_
 refine go ?_
 exact jJ [1] ⟨rfl, rfl⟩

theorem C_put1 (kb : Nat) (key : Str) (x : Cell) :
   Ct Tryz.prog 285 [.agg #[str x.1, str x.2], .pointer (some ⟨kb, 0, none⟩)] [bk kb 9 [str key]] (fun _ => True) (fun v A' => v = .bool (decide (x.1 = key)) ∧ A' = [bk kb 9 [str key]]) := by
 refine Ct.intro Tryz.func285 rfl Tryz.ntmps285 (lb rfl) fun w0 hpre => ?_
 refine go ?_
 refine jM [str x.1, str x.2] fun b_1 => ?_
 refine go ?_
 exact jJ [1] ⟨rfl, rfl⟩

theorem C_put2 (kb : Nat) (key : Str) (x : Cell) :
   Ct Tryz.prog 287 [.agg #[str x.1, str x.2], .pointer (some ⟨kb, 0, none⟩)] [bk kb 9 [str key]] (fun _ => True) (fun v A' => v = .bool (gtrB x.1 key) ∧ A' = [bk kb 9 [str key]]) := by
 refine Ct.intro Tryz.func287 rfl Tryz.ntmps287 (lb rfl) fun w0 hpre => ?_
 refine go ?_
 refine jM [str x.1, str x.2] fun b_1 => ?_
 refine go ?_
 exact jJ [1] ⟨rfl, rfl⟩

theorem C_addSpan1 (kb : Nat) (key : Str) (x : Str) :
   Ct Tryz.prog 278 [str x, .pointer (some ⟨kb, 0, none⟩)] [bk kb 9 [str key]] (fun _ => True) (fun v A' => v = .bool (geqB x key) ∧ A' = [bk kb 9 [str key]]) := by
 refine Ct.intro Tryz.func278 rfl Tryz.ntmps278 (lb rfl) fun w0 hpre => ?_
 refine go ?_
 refine jE (.inl rfl) rfl (jC (v := .bool (!(Op.bytesLess x key))) rfl) (List.Sublist.refl _) ?_
 exact ⟨rfl, rfl⟩

theorem C_cellAt (a : Option Addr) (c : Nat) (s : List Cell) (key : Str) (hn : s.length ≤ 1000000000000) :
   Ct Tryz.prog 289 [.slice a s.length c, str key] [] (fun w_ => Sees w_ (.slice a s.length c) 2 s.length (s.flatMap encC)) (fun v A' => v = .int .i64 (idxI (fun q_ => decide (q_.1 = key)) s) ∧ A' = []) := by
 refine Ct.intro Tryz.func289 rfl Tryz.ntmps289 (lb rfl) fun w0 hpre => ?_
 have hs_a : Sees w0 _ _ _ _ := hpre
 refine go ?_
 refine jM [str key] fun b_1 => ?_
 refine go ?_
 refine jK (PO.makeFunc (fv := []) (cv := [.pointer (some ⟨b_1, 0, none⟩)]) rfl rfl) ?_
 refine jN [0] (C_idxC 345 Tryz.call345 b_1 key (fun q_ => decide (q_.1 = key)) (C_cellAt1 b_1 key) a c s (by omega)) (hpre := fun w hw => ⟨hw.seeOut_ hs_a nM, hw.apartF 0 hs_a rfl List.not_mem_nil⟩) ?_
 have hix1 := idxI_lo (fun q_ => decide (q_.1 = key)) s
 have hfl1 := findAt_le (fun q_ => decide (q_.1 = key)) s
 refine go ?_
 exact jJ [] ⟨rfl, rfl⟩

theorem C_getKey (a : Option Addr) (c : Nat) (s : List Cell) (key : Str) (hn : s.length ≤ 1000000000000) :
   Ct Tryz.prog 201 [.slice a s.length c, str key] [] (fun w_ => Sees w_ (.slice a s.length c) 2 s.length (s.flatMap encC)) (fun v A' => v = str (getKey s key) ∧ A' = []) := by
 refine Ct.intro Tryz.func201 rfl Tryz.ntmps201 (lb rfl) fun w0 hpre => ?_
 have hs_a : Sees w0 _ _ _ _ := hpre
 refine go ?_
 refine jN [] (C_cellAt a c s key (by omega)) (hpre := fun w hw => hw.seeOut_ hs_a nM) ?_
 have hix0 := idxI_lo (fun q_ => decide (q_.1 = key)) s
 have hfl0 := findAt_le (fun q_ => decide (q_.1 = key)) s
 refine go ?_
 by_cases h_1 : 0 ≤ (idxI (fun q_ => decide (q_.1 = key)) s)
 · have hx_2l : findAt (fun q_ => decide (q_.1 = key)) s < s.length := by omega
   have hx_2e : idxI (fun q_ => decide (q_.1 = key)) s = ((findAt (fun q_ => decide (q_.1 = key)) s : Nat) : Int) := by omega
   first | refine kA 5 (v := iv ((findAt (fun q_ => decide (q_.1 = key)) s : Nat) : Int)) (congrArg (Value.int .i64) hx_2e) ?_ | refine jv 5 (v := iv ((findAt (fun q_ => decide (q_.1 = key)) s : Nat) : Int)) (congrArg (Value.int .i64) hx_2e) ?_ | refine kB 5 (v := iv ((findAt (fun q_ => decide (q_.1 = key)) s : Nat) : Int)) (congrArg (Value.int .i64) hx_2e) ?_ | refine kC 5 (v := iv ((findAt (fun q_ => decide (q_.1 = key)) s : Nat) : Int)) (congrArg (Value.int .i64) hx_2e) ?_
   refine go ?_
   obtain ⟨hr_3, hr_3b, -⟩ := sees_some hs_a (by omega)
   refine go ?_
   refine jU (jY (v := str ((s.getD (findAt (fun q_ => decide (q_.1 = key)) s) c0).2)) hs_a nM rfl kJ (atC2 (by omega))) ?_
   refine go ?_
   refine jE (.inl rfl) rfl (jC (v := str ((s.getD (findAt (fun q_ => decide (q_.1 = key)) s) c0).2)) rfl) (List.nil_sublist _) ?_
   refine ⟨?_, rfl⟩
   rw [getKey_found hx_2l]
 have hx_4l : findAt (fun q_ => decide (q_.1 = key)) s = s.length := by omega
 refine go ?_
 refine jE (.inl rfl) rfl (jC (v := str []) rfl) (List.nil_sublist _) ?_
 refine ⟨?_, rfl⟩
 rw [getKey_none hx_4l]

theorem C_addSpan (a : Option Addr) (c : Nat) (l : List Str) (x : Str) (hn : l.length ≤ 100000000000) :
   Ct Tryz.prog 192 [.slice a l.length c, str x] [Res.row (.slice a l.length c) 9 1 l.length (l.map str)] (fun _ => True) (fun v A' => ∃ a' c', v = .slice a' (addSpan l x).length c' ∧ A' = [.row (.slice a' (addSpan l x).length c') 9 1 (addSpan l x).length ((addSpan l x).map str)]) := by
 refine Ct.intro Tryz.func192 rfl Tryz.ntmps192 (lb rfl) fun w0 hpre => ?_
 refine go ?_
 refine jM [str x] fun b_1 => ?_
 refine go ?_
 refine jK (PO.makeFunc (fv := []) (cv := [.pointer (some ⟨b_1, 0, none⟩)]) rfl rfl) ?_
 refine jN [0] (C_idxS 278 Tryz.call278 b_1 x (fun q_ => geqB q_ x) (C_addSpan1 b_1 x) a c l (by omega)) (hpre := fun w hw => ⟨hw.see (i := 1) rfl, hw.apartO 1 0 rfl rfl rfl⟩) ?_
 have hix1 := idxI_lo (fun q_ => geqB q_ x) l
 have hfl1 := findAt_le (fun q_ => geqB q_ x) l
 refine go ?_
 by_cases h_2 : (idxI (fun q_ => geqB q_ x) l) < 0
 · have hx_3l : findAt (fun q_ => geqB q_ x) l = l.length := by omega
   refine go ?_
   refine jF rfl (jR (ps := [(0, str x)]) (cur := #[str x]) kI kM kV rfl (by kernel_rfl) (by decide) (by decide)) ?_
   rintro _ _ ⟨a_4, rfl, rfl⟩
   refine jF rfl (jX 2 (q := 1) (news := ([x] : List Str).map str) (n' := (l ++ ([x] : List Str)).length) (cs' := (l ++ ([x] : List Str)).map str) rfl kI kI kd rfl (by' := 16) rfl rfl rfl rfl rfl (fun w hw => Src.sees (hw.see (i := 0) rfl) (oneS _)) (by (try simp only [LE]); omega) (by (try simp only [LE]); omega) (by simp only [List.length_append, List.length_take, List.length_drop, List.length_cons, List.length_nil] <;> first | rfl | omega) (by simp only [List.map_append])) ?_
   rintro _ _ ⟨a_5, c_6, rfl, rfl⟩
   refine go ?_
   refine ju (pick_perm [2] (A := [Res.row (.slice a_5 ((l ++ ([x] : List Str)).length) c_6) 9 1 ((l ++ ([x] : List Str)).length) ((l ++ ([x] : List Str)).map str)]) (F := [Res.row (.slice a_4 1 1) 9 1 1 (([x] : List Str).map str), bk b_1 9 [str x]]) rfl).symm ?_
   refine jE (.inl rfl) rfl (jC (v := .slice a_5 ((l ++ ([x] : List Str)).length) c_6) rfl) (sL [Res.row (.slice a_5 ((l ++ ([x] : List Str)).length) c_6) 9 1 ((l ++ ([x] : List Str)).length) ((l ++ ([x] : List Str)).map str)] [Res.row (.slice a_4 1 1) 9 1 1 (([x] : List Str).map str), bk b_1 9 [str x]]) ?_
   exact ⟨_, _, by rw [addSpan_end hx_3l], by rw [addSpan_end hx_3l] <;> rfl⟩
 have hx_7l : findAt (fun q_ => geqB q_ x) l < l.length := by omega
 have hx_7e : idxI (fun q_ => geqB q_ x) l = ((findAt (fun q_ => geqB q_ x) l : Nat) : Int) := by omega
 refine go ?_
 refine jH [0, 0] 5 ?_
 first | refine kA 5 (v := iv ((findAt (fun q_ => geqB q_ x) l : Nat) : Int)) (congrArg (Value.int .i64) hx_7e) ?_ | refine jv 5 (v := iv ((findAt (fun q_ => geqB q_ x) l : Nat) : Int)) (congrArg (Value.int .i64) hx_7e) ?_ | refine kB 5 (v := iv ((findAt (fun q_ => geqB q_ x) l : Nat) : Int)) (congrArg (Value.int .i64) hx_7e) ?_ | refine kC 5 (v := iv ((findAt (fun q_ => geqB q_ x) l : Nat) : Int)) (congrArg (Value.int .i64) hx_7e) ?_
 refine go ?_
 refine JA.facts fun hst => ?_
 obtain ⟨hr_8, hr_8b, -⟩ := row_some 1 rfl (by omega) hst
 refine go ?_
 refine jk 3 rfl (jr 1 (v := str (l.getD (findAt (fun q_ => geqB q_ x) l) [])) rfl rfl kJ (atS (by omega))) ?_
 refine go ?_
 by_cases h_9 : (l.getD (findAt (fun q_ => geqB q_ x) l) []) = x
 · have hsame := h_9
   refine go ?_
   refine ju (pick_perm [1] (A := [Res.row (.slice a l.length c) 9 1 l.length (l.map str)]) (F := [bk b_1 9 [str x]]) rfl).symm ?_
   refine jE (.inl rfl) rfl (jC (v := .slice a l.length c) rfl) (sL [Res.row (.slice a l.length c) 9 1 l.length (l.map str)] [bk b_1 9 [str x]]) ?_
   exact ⟨_, _, by rw [addSpan_same hx_7l hsame], by rw [addSpan_same hx_7l hsame] <;> rfl⟩
 have hsame := h_9
 refine go ?_
 refine jF rfl (jR (ps := [(0, str x)]) (cur := #[str x]) kI kM kV rfl (by kernel_rfl) (by decide) (by decide)) ?_
 rintro _ _ ⟨a_10, rfl, rfl⟩
 refine jA [2, 0] (C_insS a a_10 c l (findAt (fun q_ => geqB q_ x) l) x (by omega) (by omega) (by rw [List.length_map, Nat.mul_one])) ?_
 rintro _ _ ⟨a_11, c_12, rfl, rfl⟩
 refine go ?_
 refine jE (.inl rfl) rfl (jC (v := .slice a_11 ((insertAt (findAt (fun q_ => geqB q_ x) l) x l).length) c_12) rfl) (sL [Res.row (.slice a_11 ((insertAt (findAt (fun q_ => geqB q_ x) l) x l).length) c_12) 9 1 ((insertAt (findAt (fun q_ => geqB q_ x) l) x l).length) ((insertAt (findAt (fun q_ => geqB q_ x) l) x l).map str)] [bk b_1 9 [str x]]) ?_
 exact ⟨_, _, by rw [addSpan_ins hx_7l hsame], by rw [addSpan_ins hx_7l hsame] <;> rfl⟩

theorem C_put (a : Option Addr) (c : Nat) (s : List Cell) (key val : Str) (hn : s.length ≤ 100000000000) (hk : key.length ≤ 1000000000000) :
   Ct Tryz.prog 200 [.slice a s.length c, str key, str val] [Res.row (.slice a s.length c) 130 2 s.length (s.flatMap encC)] (fun _ => True) (fun v A' => ∃ a' c', v = .slice a' (putKey s key val).length c' ∧ A' = [.row (.slice a' (putKey s key val).length c') 130 2 (putKey s key val).length ((putKey s key val).flatMap encC)]) := by
 refine Ct.intro Tryz.func200 rfl Tryz.ntmps200 (lb rfl) fun w0 hpre => ?_
 refine go ?_
 refine jM [str key] fun b_1 => ?_
 refine go ?_
 refine jN [] (C_keyOk key (by omega)) ?_
 refine go ?_
 rcases Bool.eq_false_or_eq_true (keyOk key) with h_2 | h_2
 · refine go ?_
   by_cases h_3 : 60 < (val.length : Int)
   · refine go ?_
     refine ju (pick_perm [1] (A := [Res.row (.slice a s.length c) 130 2 s.length (s.flatMap encC)]) (F := [bk b_1 9 [str key]]) rfl).symm ?_
     refine jE (.inl rfl) rfl (jC (v := .slice a s.length c) rfl) (sL [Res.row (.slice a s.length c) 130 2 s.length (s.flatMap encC)] [bk b_1 9 [str key]]) ?_
     have he := (putKey_bad2 (by omega) : putKey s key val = _)
     exact ⟨_, _, by rw [he], by rw [he] <;> rfl⟩
   refine go ?_
   refine jK (PO.makeFunc (fv := []) (cv := [.pointer (some ⟨b_1, 0, none⟩)]) rfl rfl) ?_
   refine jA [0, 0] (C_delC 285 Tryz.call285 b_1 key (fun q_ => decide (q_.1 = key)) (C_put1 b_1 key) a c s (by omega)) ?_
   rintro _ _ ⟨a_4, c_5, rfl, rfl⟩
   have hfi5 : (s.filter (fun c => !decide (c.1 = key))).length ≤ s.length := List.length_filter_le _ _
   refine go ?_
   by_cases h_6 : val = []
   · refine go ?_
     refine ju (pick_perm [1] (A := [Res.row (.slice a_4 ((s.filter (fun c => !decide (c.1 = key))).length) c_5) 130 2 ((s.filter (fun c => !decide (c.1 = key))).length) ((s.filter (fun c => !decide (c.1 = key))).flatMap encC)]) (F := [bk b_1 9 [str key]]) rfl).symm ?_
     refine jE (.inl rfl) rfl (jC (v := .slice a_4 ((s.filter (fun c => !decide (c.1 = key))).length) c_5) rfl) (sL [Res.row (.slice a_4 ((s.filter (fun c => !decide (c.1 = key))).length) c_5) 130 2 ((s.filter (fun c => !decide (c.1 = key))).length) ((s.filter (fun c => !decide (c.1 = key))).flatMap encC)] [bk b_1 9 [str key]]) ?_
     have he := (putKey_nil h_2 (by omega) h_6 : putKey s key val = _)
     exact ⟨_, _, by rw [he], by rw [he] <;> rfl⟩
   refine go ?_
   refine jK (PO.makeFunc (fv := []) (cv := [.pointer (some ⟨b_1, 0, none⟩)]) rfl rfl) ?_
   refine jN [0] (C_idxC 287 Tryz.call287 b_1 key (fun q_ => gtrB q_.1 key) (C_put2 b_1 key) a_4 c_5 (s.filter (fun c => !decide (c.1 = key))) (by omega)) (hpre := fun w hw => ⟨hw.see (i := 1) rfl, hw.apartO 1 0 rfl rfl rfl⟩) ?_
   have hix6 := idxI_lo (fun q_ => gtrB q_.1 key) (s.filter (fun c => !decide (c.1 = key)))
   have hfl6 := findAt_le (fun q_ => gtrB q_.1 key) (s.filter (fun c => !decide (c.1 = key)))
   refine go ?_
   by_cases h_7 : (idxI (fun q_ => gtrB q_.1 key) (s.filter (fun c => !decide (c.1 = key)))) < 0
   · have hx_8l : findAt (fun q_ => gtrB q_.1 key) (s.filter (fun c => !decide (c.1 = key))) = (s.filter (fun c => !decide (c.1 = key))).length := by omega
     refine go ?_
     refine jK (je (ps := [(0, str key), (1, str val)]) (cs := [str key, str val]) rfl (by kernel_rfl)) ?_
     refine jF rfl (jR (ps := [(0, .agg #[str key, str val])]) (cur := #[str key, str val]) kK kP kq rfl (by kernel_rfl) (by decide) (by decide)) ?_
     rintro _ _ ⟨a_9, rfl, rfl⟩
     refine jA [2, 0] (C_insC a_4 a_9 c_5 (s.filter (fun c => !decide (c.1 = key))) ((s.filter (fun c => !decide (c.1 = key))).length) (key, val) (by omega) (by omega) (by rw [lenC])) ?_
     rintro _ _ ⟨a_10, c_11, rfl, rfl⟩
     refine go ?_
     refine jE (.inl rfl) rfl (jC (v := .slice a_10 ((insertAt ((s.filter (fun c => !decide (c.1 = key))).length) (key, val) (s.filter (fun c => !decide (c.1 = key)))).length) c_11) rfl) (sL [Res.row (.slice a_10 ((insertAt ((s.filter (fun c => !decide (c.1 = key))).length) (key, val) (s.filter (fun c => !decide (c.1 = key)))).length) c_11) 130 2 ((insertAt ((s.filter (fun c => !decide (c.1 = key))).length) (key, val) (s.filter (fun c => !decide (c.1 = key)))).length) ((insertAt ((s.filter (fun c => !decide (c.1 = key))).length) (key, val) (s.filter (fun c => !decide (c.1 = key)))).flatMap encC)] [bk b_1 9 [str key]]) ?_
     have he := (putKey_ins h_2 (by omega) h_6 : putKey s key val = _)
     exact ⟨_, _, by rw [he, hx_8l], by rw [he, hx_8l] <;> rfl⟩
   have hx_12l : findAt (fun q_ => gtrB q_.1 key) (s.filter (fun c => !decide (c.1 = key))) < (s.filter (fun c => !decide (c.1 = key))).length := by omega
   have hx_12e : idxI (fun q_ => gtrB q_.1 key) (s.filter (fun c => !decide (c.1 = key))) = ((findAt (fun q_ => gtrB q_.1 key) (s.filter (fun c => !decide (c.1 = key))) : Nat) : Int) := by omega
   first | refine kA 7 (v := iv ((findAt (fun q_ => gtrB q_.1 key) (s.filter (fun c => !decide (c.1 = key))) : Nat) : Int)) (congrArg (Value.int .i64) hx_12e) ?_ | refine jv 7 (v := iv ((findAt (fun q_ => gtrB q_.1 key) (s.filter (fun c => !decide (c.1 = key))) : Nat) : Int)) (congrArg (Value.int .i64) hx_12e) ?_ | refine kB 7 (v := iv ((findAt (fun q_ => gtrB q_.1 key) (s.filter (fun c => !decide (c.1 = key))) : Nat) : Int)) (congrArg (Value.int .i64) hx_12e) ?_ | refine kC 7 (v := iv ((findAt (fun q_ => gtrB q_.1 key) (s.filter (fun c => !decide (c.1 = key))) : Nat) : Int)) (congrArg (Value.int .i64) hx_12e) ?_
   refine go ?_
   refine jK (je (ps := [(0, str key), (1, str val)]) (cs := [str key, str val]) rfl (by kernel_rfl)) ?_
   refine jF rfl (jR (ps := [(0, .agg #[str key, str val])]) (cur := #[str key, str val]) kK kP kq rfl (by kernel_rfl) (by decide) (by decide)) ?_
   rintro _ _ ⟨a_13, rfl, rfl⟩
   refine jA [2, 0] (C_insC a_4 a_13 c_5 (s.filter (fun c => !decide (c.1 = key))) (findAt (fun q_ => gtrB q_.1 key) (s.filter (fun c => !decide (c.1 = key)))) (key, val) (by omega) (by omega) (by rw [lenC])) ?_
   rintro _ _ ⟨a_14, c_15, rfl, rfl⟩
   refine go ?_
   refine jE (.inl rfl) rfl (jC (v := .slice a_14 ((insertAt (findAt (fun q_ => gtrB q_.1 key) (s.filter (fun c => !decide (c.1 = key)))) (key, val) (s.filter (fun c => !decide (c.1 = key)))).length) c_15) rfl) (sL [Res.row (.slice a_14 ((insertAt (findAt (fun q_ => gtrB q_.1 key) (s.filter (fun c => !decide (c.1 = key)))) (key, val) (s.filter (fun c => !decide (c.1 = key)))).length) c_15) 130 2 ((insertAt (findAt (fun q_ => gtrB q_.1 key) (s.filter (fun c => !decide (c.1 = key)))) (key, val) (s.filter (fun c => !decide (c.1 = key)))).length) ((insertAt (findAt (fun q_ => gtrB q_.1 key) (s.filter (fun c => !decide (c.1 = key)))) (key, val) (s.filter (fun c => !decide (c.1 = key)))).flatMap encC)] [bk b_1 9 [str key]]) ?_
   have he := (putKey_ins h_2 (by omega) h_6 : putKey s key val = _)
   exact ⟨_, _, by rw [he], by rw [he] <;> rfl⟩
 refine go ?_
 refine ju (pick_perm [1] (A := [Res.row (.slice a s.length c) 130 2 s.length (s.flatMap encC)]) (F := [bk b_1 9 [str key]]) rfl).symm ?_
 refine jE (.inl rfl) rfl (jC (v := .slice a s.length c) rfl) (sL [Res.row (.slice a s.length c) 130 2 s.length (s.flatMap encC)] [bk b_1 9 [str key]]) ?_
 have he := (putKey_bad1 h_2 : putKey s key val = _)
 exact ⟨_, _, by rw [he], by rw [he] <;> rfl⟩
theorem C_look (p : Nat) (a0 a1 a2 : Option Addr) (c0_ c1 c2 : Nat) (m : MS) (key : Str) (h0 : m.s.length ≤ 10000000000) (h1 : m.r.length ≤ 10000000000) (h2 : m.w.length ≤ 10000000000) :
   Ct Tryz.prog 307 [.pointer (some ⟨p, 0, none⟩), str key] [bk p 60 [.slice a0 m.s.length c0_, .slice a1 m.r.length c1, .slice a2 m.w.length c2], Res.row (.slice a0 m.s.length c0_) 130 2 m.s.length (m.s.flatMap encC), Res.row (.slice a1 m.r.length c1) 9 1 m.r.length (m.r.map str), Res.row (.slice a2 m.w.length c2) 9 1 m.w.length (m.w.map str)] (fun _ => True) (fun v A' => ∃ x0 y0 x1 y1 x2 y2, v = str (m.look key).2 ∧ A' = [bk p 60 [.slice x0 (((m.look key).1).s.length) y0, .slice x1 (((m.look key).1).r.length) y1, .slice x2 (((m.look key).1).w.length) y2], Res.row (.slice x0 (((m.look key).1).s.length) y0) 130 2 ((((m.look key).1).s).length) ((((m.look key).1).s).flatMap encC), Res.row (.slice x1 (((m.look key).1).r.length) y1) 9 1 ((((m.look key).1).r).length) ((((m.look key).1).r).map str), Res.row (.slice x2 (((m.look key).1).w.length) y2) 9 1 ((((m.look key).1).w).length) ((((m.look key).1).w).map str)]) := by
 refine Ct.intro Tryz.func307 rfl Tryz.ntmps307 (lb rfl) fun w0 hpre => ?_
 refine go ?_
 refine jA [2] (C_addSpan a1 c1 m.r key (by omega)) ?_
 rintro _ _ ⟨a_1, c_2, rfl, rfl⟩
 refine go ?_
 refine jD 1 [.slice a0 m.s.length c0_, .slice a_1 ((addSpan m.r key).length) c_2, .slice a2 m.w.length c2] ?_
 refine go ?_
 refine jN [] (C_getKey a0 c0_ m.s key (by omega)) (hpre := fun w hw => hw.see (i := 2) rfl) ?_
 refine go ?_
 exact jJ [1, 1, 0, 0] ⟨_, _, _, _, _, _, rfl, rfl⟩

theorem C_lay (p : Nat) (a0 a1 a2 : Option Addr) (c0_ c1 c2 : Nat) (m : MS) (key val : Str) (h0 : m.s.length ≤ 10000000000) (h1 : m.r.length ≤ 10000000000) (h2 : m.w.length ≤ 10000000000) (hk : key.length ≤ 1000000000000) :
   Ct Tryz.prog 295 [.pointer (some ⟨p, 0, none⟩), str key, str val] [bk p 60 [.slice a0 m.s.length c0_, .slice a1 m.r.length c1, .slice a2 m.w.length c2], Res.row (.slice a0 m.s.length c0_) 130 2 m.s.length (m.s.flatMap encC), Res.row (.slice a1 m.r.length c1) 9 1 m.r.length (m.r.map str), Res.row (.slice a2 m.w.length c2) 9 1 m.w.length (m.w.map str)] (fun _ => True) (fun v A' => ∃ x0 y0 x1 y1 x2 y2, v = .tuple #[] ∧ A' = [bk p 60 [.slice x0 ((m.lay key val).s.length) y0, .slice x1 ((m.lay key val).r.length) y1, .slice x2 ((m.lay key val).w.length) y2], Res.row (.slice x0 ((m.lay key val).s.length) y0) 130 2 (((m.lay key val).s).length) (((m.lay key val).s).flatMap encC), Res.row (.slice x1 ((m.lay key val).r.length) y1) 9 1 (((m.lay key val).r).length) (((m.lay key val).r).map str), Res.row (.slice x2 ((m.lay key val).w.length) y2) 9 1 (((m.lay key val).w).length) (((m.lay key val).w).map str)]) := by
 refine Ct.intro Tryz.func295 rfl Tryz.ntmps295 (lb rfl) fun w0 hpre => ?_
 refine go ?_
 refine jA [3] (C_addSpan a2 c2 m.w key (by omega)) ?_
 rintro _ _ ⟨a_1, c_2, rfl, rfl⟩
 refine go ?_
 refine jD 1 [.slice a0 m.s.length c0_, .slice a1 m.r.length c1, .slice a_1 ((addSpan m.w key).length) c_2] ?_
 refine go ?_
 refine jA [2] (C_put a0 c0_ m.s key val (by omega) (by omega)) ?_
 rintro _ _ ⟨a_3, c_4, rfl, rfl⟩
 refine go ?_
 refine jD 2 [.slice a_3 ((putKey m.s key val).length) c_4, .slice a1 m.r.length c1, .slice a_1 ((addSpan m.w key).length) c_2] ?_
 refine go ?_
 exact JQ.d0 [2, 0, 1, 0] ⟨_, _, _, _, _, _, rfl, rfl⟩

theorem C_decimal (n : Int) (h0 : -9223372036854775808 ≤ n) (h1 : n ≤ 9223372036854775807) :
   Ct Tryz.prog 129 [.int .i64 n] [] (fun _ => True) (fun v A' => v = str (dec n) ∧ A' = []) := by
 refine Ct.intro Tryz.func129 rfl Tryz.ntmps129 (lb rfl) fun w0 hpre => ?_
 refine go ?_
 refine jN [] (C_itoa n (by omega) (by omega)) ?_
 refine go ?_
 exact jJ [] ⟨rfl, rfl⟩

theorem C_readDecimal (t : Str) (ht : t.length ≤ 281474976710656) :
   Ct Tryz.prog 352 [str t] [] (fun _ => True) (fun v A' => v = .tuple #[.int .i64 (readDec t).1, .bool (readDec t).2] ∧ A' = []) := by
 refine Ct.intro Tryz.func352 rfl Tryz.ntmps352 (lb rfl) fun w0 hpre => ?_
 refine go ?_
 refine jA [] (C_atoi t (by omega)) ?_
 rintro _ _ ⟨⟨n_, hat, rfl⟩ | ⟨hat, n_, te, pe, rfl⟩, rfl⟩
 · refine go ?_
   refine jK (PO.neqIfN Tryz.underlying293 rfl rfl) ?_
   refine go ?_
   refine jW rfl rfl rfl (cB rfl) (jO [] Tryz.call109 rfl (C_within n_ 0 1000000000) rfl (fun _ _ => trivial)) ?_
   rintro _ _ ⟨_, ⟨rfl, rfl⟩, rfl⟩
   refine go ?_
   rcases Bool.eq_false_or_eq_true (decide (0 ≤ n_) && decide (n_ ≤ 1000000000)) with h_1 | h_1
   · have h_1d := h_1
     simp only [Bool.and_eq_true, Bool.and_eq_false_iff, decide_eq_true_eq, decide_eq_false_iff_not] at h_1d
     refine go ?_
     refine jW rfl rfl rfl (cB (cN h_1)) (jO [] Tryz.call129 rfl (C_decimal n_ (by omega) (by omega)) rfl (fun _ _ => trivial)) ?_
     rintro _ _ ⟨_, ⟨rfl, rfl⟩, rfl⟩
     refine go ?_
     by_cases h_2 : (dec n_) = t
     · refine go ?_
       refine ji (.inl rfl) rfl (jC (v := iv n_) rfl) (jC (v := .bool true) rfl) (List.nil_sublist _) ?_
       refine ⟨?_, rfl⟩
       rw [readDec_ok hat, if_pos (by refine ⟨?_, ?_, ?_⟩ <;> first | omega | simp_all)]
     refine go ?_
     refine ji (.inl rfl) rfl (jC (v := iv 0) rfl) (jC (v := .bool false) rfl) (List.nil_sublist _) ?_
     refine ⟨?_, rfl⟩
     rw [readDec_ok hat, if_neg (fun h => by simp_all <;> omega)]
   have h_1d := h_1
   simp only [Bool.and_eq_true, Bool.and_eq_false_iff, decide_eq_true_eq, decide_eq_false_iff_not] at h_1d
   refine go ?_
   refine ji (.inl rfl) rfl (jC (v := iv 0) rfl) (jC (v := .bool false) rfl) (List.nil_sublist _) ?_
   refine ⟨?_, rfl⟩
   rw [readDec_ok hat, if_neg (fun h => by simp_all <;> omega)]
 refine go ?_
 refine jK (PO.neqIfS Tryz.underlying293 rfl rfl) ?_
 refine go ?_
 refine ji (.inl rfl) rfl (jC (v := iv 0) rfl) (jC (v := .bool false) rfl) (List.nil_sublist _) ?_
 rw [readDec_err hat]
 exact ⟨rfl, rfl⟩

theorem C_numOf (t : Str) (ht : t.length ≤ 281474976710656) :
   Ct Tryz.prog 309 [str t] [] (fun _ => True) (fun v A' => v = .int .i64 (numOf t) ∧ A' = []) := by
 refine Ct.intro Tryz.func309 rfl Tryz.ntmps309 (lb rfl) fun w0 hpre => ?_
 refine go ?_
 refine jN [] (C_readDecimal t ht) ?_
 refine go ?_
 by_cases h_1 : 999 < ((readDec t).1)
 · refine go ?_
   refine jE (.inl rfl) rfl (jC (v := iv 0) rfl) (List.nil_sublist _) ?_
   refine ⟨?_, rfl⟩
   unfold numOf
   first | rw [if_pos (by omega)] | rw [if_neg (by omega)]
 refine go ?_
 refine jE (.inl rfl) rfl (jC (v := iv ((readDec t).1)) rfl) (List.nil_sublist _) ?_
 refine ⟨?_, rfl⟩
 unfold numOf
 first | rw [if_pos (by omega)] | rw [if_neg (by omega)]

theorem C_num (p : Nat) (a0 a1 a2 : Option Addr) (c0_ c1 c2 : Nat) (m : MS) (key : Str) (h0 : m.s.length ≤ 10000000000) (h1 : m.r.length ≤ 10000000000) (h2 : m.w.length ≤ 10000000000) (hv : (getKey m.s key).length ≤ 281474976710656) :
   Ct Tryz.prog 248 [.pointer (some ⟨p, 0, none⟩), str key] [bk p 60 [.slice a0 m.s.length c0_, .slice a1 m.r.length c1, .slice a2 m.w.length c2], Res.row (.slice a0 m.s.length c0_) 130 2 m.s.length (m.s.flatMap encC), Res.row (.slice a1 m.r.length c1) 9 1 m.r.length (m.r.map str), Res.row (.slice a2 m.w.length c2) 9 1 m.w.length (m.w.map str)] (fun _ => True) (fun v A' => ∃ x0 y0 x1 y1 x2 y2, v = .int .i64 (m.num key).2 ∧ A' = [bk p 60 [.slice x0 (((m.num key).1).s.length) y0, .slice x1 (((m.num key).1).r.length) y1, .slice x2 (((m.num key).1).w.length) y2], Res.row (.slice x0 (((m.num key).1).s.length) y0) 130 2 ((((m.num key).1).s).length) ((((m.num key).1).s).flatMap encC), Res.row (.slice x1 (((m.num key).1).r.length) y1) 9 1 ((((m.num key).1).r).length) ((((m.num key).1).r).map str), Res.row (.slice x2 (((m.num key).1).w.length) y2) 9 1 ((((m.num key).1).w).length) ((((m.num key).1).w).map str)]) := by
 refine Ct.intro Tryz.func248 rfl Tryz.ntmps248 (lb rfl) fun w0 hpre => ?_
 refine go ?_
 refine jA [0, 0, 0, 0] (C_look p a0 a1 a2 c0_ c1 c2 m key (by omega) (by omega) (by omega)) ?_
 rintro _ _ ⟨a_1, c_2, a_3, c_4, a_5, c_6, rfl, rfl⟩
 have hlk6 := look_len m key
 refine jN [] (C_numOf ((MS.look m key).2) hv) ?_
 have hno6 := numOf_lo ((MS.look m key).2)
 refine go ?_
 refine jE (.inl rfl) rfl (jC (v := iv (numOf ((MS.look m key).2))) rfl) (List.Sublist.refl _) ?_
 exact ⟨_, _, _, _, _, _, rfl, rfl⟩

theorem C_setNum (p : Nat) (a0 a1 a2 : Option Addr) (c0_ c1 c2 : Nat) (m : MS) (key : Str) (n : Int) (h0 : m.s.length ≤ 10000000000) (h1 : m.r.length ≤ 10000000000) (h2 : m.w.length ≤ 10000000000) (hk : key.length ≤ 1000000000000) (hn0 : -9223372036854775808 ≤ n) (hn1 : n ≤ 9223372036854775807) :
   Ct Tryz.prog 250 [.pointer (some ⟨p, 0, none⟩), str key, .int .i64 n] [bk p 60 [.slice a0 m.s.length c0_, .slice a1 m.r.length c1, .slice a2 m.w.length c2], Res.row (.slice a0 m.s.length c0_) 130 2 m.s.length (m.s.flatMap encC), Res.row (.slice a1 m.r.length c1) 9 1 m.r.length (m.r.map str), Res.row (.slice a2 m.w.length c2) 9 1 m.w.length (m.w.map str)] (fun _ => True) (fun v A' => ∃ x0 y0 x1 y1 x2 y2, v = .tuple #[] ∧ A' = [bk p 60 [.slice x0 ((m.setNum key n).s.length) y0, .slice x1 ((m.setNum key n).r.length) y1, .slice x2 ((m.setNum key n).w.length) y2], Res.row (.slice x0 ((m.setNum key n).s.length) y0) 130 2 (((m.setNum key n).s).length) (((m.setNum key n).s).flatMap encC), Res.row (.slice x1 ((m.setNum key n).r.length) y1) 9 1 (((m.setNum key n).r).length) (((m.setNum key n).r).map str), Res.row (.slice x2 ((m.setNum key n).w.length) y2) 9 1 (((m.setNum key n).w).length) (((m.setNum key n).w).map str)]) := by
 refine Ct.intro Tryz.func250 rfl Tryz.ntmps250 (lb rfl) fun w0 hpre => ?_
 refine go ?_
 refine jN [] (C_within n 1 999) ?_
 refine go ?_
 rcases Bool.eq_false_or_eq_true (decide (1 ≤ n) && decide (n ≤ 999)) with h_1 | h_1
 · have h_1d := h_1
   simp only [Bool.and_eq_true, Bool.and_eq_false_iff, decide_eq_true_eq, decide_eq_false_iff_not] at h_1d
   refine go ?_
   refine jN [] (C_decimal n (by omega) (by omega)) ?_
   refine go ?_
   refine jA [0, 0, 0, 0] (C_lay p a0 a1 a2 c0_ c1 c2 m key (dec n) (by omega) (by omega) (by omega) (by omega)) ?_
   rintro _ _ ⟨a_2, c_3, a_4, c_5, a_6, c_7, rfl, rfl⟩
   have hly7 := lay_len m key (dec n)
   refine go ?_
   refine Done.none (.inr rfl) rfl (List.Sublist.refl _) ?_
   have hb : m.setNum key n = m.lay key (dec n) := by unfold MS.setNum; rw [if_pos (by omega)]
   rw [hb]
   exact ⟨_, _, _, _, _, _, rfl, rfl⟩
 have h_1d := h_1
 simp only [Bool.and_eq_true, Bool.and_eq_false_iff, decide_eq_true_eq, decide_eq_false_iff_not] at h_1d
 refine go ?_
 refine jA [0, 0, 0, 0] (C_lay p a0 a1 a2 c0_ c1 c2 m key [] (by omega) (by omega) (by omega) (by omega)) ?_
 rintro _ _ ⟨a_8, c_9, a_10, c_11, a_12, c_13, rfl, rfl⟩
 have hly13 := lay_len m key []
 refine go ?_
 refine Done.none (.inr rfl) rfl (List.Sublist.refl _) ?_
 have hb : m.setNum key n = m.lay key [] := by unfold MS.setNum; rw [if_neg (by omega)]
 rw [hb]
 exact ⟨_, _, _, _, _, _, rfl, rfl⟩

theorem C_bump (p : Nat) (a0 a1 a2 : Option Addr) (c0_ c1 c2 : Nat) (m : MS) (key : Str) (h0 : m.s.length ≤ 2000000000) (h1 : m.r.length ≤ 2000000000) (h2 : m.w.length ≤ 2000000000) (hv : (getKey m.s key).length ≤ 281474976710656) (hk : key.length ≤ 1000000000000) :
   Ct Tryz.prog 249 [.pointer (some ⟨p, 0, none⟩), str key] [bk p 60 [.slice a0 m.s.length c0_, .slice a1 m.r.length c1, .slice a2 m.w.length c2], Res.row (.slice a0 m.s.length c0_) 130 2 m.s.length (m.s.flatMap encC), Res.row (.slice a1 m.r.length c1) 9 1 m.r.length (m.r.map str), Res.row (.slice a2 m.w.length c2) 9 1 m.w.length (m.w.map str)] (fun _ => True) (fun v A' => ∃ x0 y0 x1 y1 x2 y2, v = .int .i64 (m.bump key).2 ∧ A' = [bk p 60 [.slice x0 (((m.bump key).1).s.length) y0, .slice x1 (((m.bump key).1).r.length) y1, .slice x2 (((m.bump key).1).w.length) y2], Res.row (.slice x0 (((m.bump key).1).s.length) y0) 130 2 ((((m.bump key).1).s).length) ((((m.bump key).1).s).flatMap encC), Res.row (.slice x1 (((m.bump key).1).r.length) y1) 9 1 ((((m.bump key).1).r).length) ((((m.bump key).1).r).map str), Res.row (.slice x2 (((m.bump key).1).w.length) y2) 9 1 ((((m.bump key).1).w).length) ((((m.bump key).1).w).map str)]) := by
 refine Ct.intro Tryz.func249 rfl Tryz.ntmps249 (lb rfl) fun w0 hpre => ?_
 refine go ?_
 refine jA [0, 0, 0, 0] (C_num p a0 a1 a2 c0_ c1 c2 m key (by omega) (by omega) (by omega) hv) ?_
 rintro _ _ ⟨a_1, c_2, a_3, c_4, a_5, c_6, rfl, rfl⟩
 have hnm6 := num_len m key
 have hnn6 : 0 ≤ (MS.num m key).2 ∧ (MS.num m key).2 ≤ 999 := numOf_lo _
 refine go ?_
 by_cases h_7 : 999 < (((MS.num m key).2) + 1)
 · refine go ?_
   refine jE (.inl rfl) rfl (jC (v := iv 0) rfl) (List.Sublist.refl _) ?_
   have hb : m.bump key = ((m.num key).1, 0) := by unfold MS.bump; rw [if_pos (by omega)]
   rw [hb]
   exact ⟨_, _, _, _, _, _, rfl, rfl⟩
 refine go ?_
 refine jA [0, 0, 0, 0] (C_setNum p a_1 a_3 a_5 c_2 c_4 c_6 ((MS.num m key).1) key (((MS.num m key).2) + 1) (by omega) (by omega) (by omega) (by omega) (by omega) (by omega)) ?_
 rintro _ _ ⟨a_8, c_9, a_10, c_11, a_12, c_13, rfl, rfl⟩
 have hsn13 := setNum_len ((MS.num m key).1) key (((MS.num m key).2) + 1)
 refine go ?_
 refine jE (.inl rfl) rfl (jC (v := iv (((MS.num m key).2) + 1)) rfl) (List.Sublist.refl _) ?_
 have hb : m.bump key = ((m.num key).1.setNum key ((m.num key).2 + 1), (m.num key).2 + 1) := by unfold MS.bump; rw [if_neg (by omega)]
 rw [hb]
 exact ⟨_, _, _, _, _, _, rfl, rfl⟩
end Go.Proofs.YthlfmbbaomdciaaGreatDoor
