/-
Texts of the walk, joined: what each one proves stands at its theorems.
-/
import Derived.Test.YthlfmbbaomdciaaGreatDoorB0S22MACH
set_option linter.unusedSimpArgs false
set_option linter.unusedVariables false
set_option linter.unnecessarySimpa false
set_option maxHeartbeats 4000000
set_option maxRecDepth 4000
namespace Go.Proofs.YthlfmbbaomdciaaGreatDoor
open Go Go.RowKit
attribute [local irreducible] JL JC JQ JO LO PO JA JX Ct
theorem N_figure (k : Nat) (h : k < 16) :
   Ct Tryz.prog 255 [.int .i64 ((k : Nat) : Int)] [] (fun _ => True) (fun v A' => v = .int .u8 (((hexFig k).toNat : Nat) : Int) ∧ A' = []) := by
 refine Ct.intro Tryz.func255 rfl Tryz.ntmps255 (lb rfl) fun w0 hpre => ?_
 refine go ?_
 by_cases h_1 : ((k : Nat) : Int) < 10
 · refine go ?_
   refine jK (PO.convI (c := (((UInt8.ofNat (48 + k)).toNat : Nat) : Int)) kW kU rfl (wr8u (c := UInt8.ofNat (48 + k)) (by omega) (by first | rw [Int.toNat_natCast] | rfl | (congr 1; omega)))) ?_
   refine go ?_
   refine jE (.inl rfl) rfl (jC (v := .int .u8 (((UInt8.ofNat (48 + k)).toNat : Nat) : Int)) rfl) (List.nil_sublist _) ?_
   refine ⟨?_, rfl⟩
   exact congrArg (fun q : Nat => Value.int .u8 (q : Int)) (by first | (rw [hexFig_lo (by omega), UInt8.toNat_ofNat_of_lt' (by show _ < 256; omega)]) | (rw [hexFig_hi (by omega) (by omega), UInt8.toNat_ofNat_of_lt' (by show _ < 256; omega)]; omega))
 refine go ?_
 refine jK (jg (c := ((97 + k : Nat) : Int) - 10) rfl rfl (wr (by omega))) <| jK (PO.convI (c := (((UInt8.ofNat (((97 + k : Nat) : Int) - 10).toNat).toNat : Nat) : Int)) kW kU rfl (wr8u (by omega) rfl)) ?_
 refine go ?_
 refine jE (.inl rfl) rfl (jC (v := .int .u8 (((UInt8.ofNat (((97 + k : Nat) : Int) - 10).toNat).toNat : Nat) : Int)) rfl) (List.nil_sublist _) ?_
 refine ⟨?_, rfl⟩
 exact congrArg (fun q : Nat => Value.int .u8 (q : Int)) (by first | (rw [hexFig_lo (by omega), UInt8.toNat_ofNat_of_lt' (by show _ < 256; omega)]) | (rw [hexFig_hi (by omega) (by omega), UInt8.toNat_ofNat_of_lt' (by show _ < 256; omega)]; omega))

theorem N_value (c : UInt8) :
   Ct Tryz.prog 358 [.int .u8 ((c.toNat : Nat) : Int)] [] (fun _ => True) (fun v A' => ∃ r0, hexV c = r0 ∧ (-1 ≤ r0 ∧ r0 ≤ 15) ∧ v = .int .i64 r0 ∧ A' = []) := by
 have hc8 := UInt8.toNat_lt c
 refine Ct.intro Tryz.func358 rfl Tryz.ntmps358 (lb rfl) fun w0 hpre => ?_
 refine go ?_
 by_cases h_1 : 48 ≤ ((c.toNat : Nat) : Int)
 · refine go ?_
   by_cases h_2 : ((c.toNat : Nat) : Int) ≤ 57
   · refine go ?_
     refine jK (PO.convI (c := ((c.toNat : Nat) : Int)) kU kW rfl (wr (by omega))) <| jK (jg (c := ((c.toNat : Nat) : Int) - 48) rfl rfl (wr (by omega))) ?_
     refine go ?_
     refine jE (.inl rfl) rfl (jC (v := iv (((c.toNat : Nat) : Int) - 48)) rfl) (List.nil_sublist _) ?_
     refine ⟨_, ?_, ?_, rfl, rfl⟩
     · first | exact hexV_a (by omega) (by omega) | exact hexV_b (by omega) (by omega) | exact hexV_c (by omega) (by omega)
     omega
   refine go ?_
   by_cases h_3 : 97 ≤ ((c.toNat : Nat) : Int)
   · refine go ?_
     by_cases h_4 : ((c.toNat : Nat) : Int) ≤ 102
     · refine go ?_
       refine jK (PO.convI (c := ((c.toNat : Nat) : Int)) kU kW rfl (wr (by omega))) <| jK (jg (c := ((c.toNat : Nat) : Int) - 97) rfl rfl (wr (by omega))) ?_
       refine go ?_
       refine jE (.inl rfl) rfl (jC (v := iv ((((c.toNat : Nat) : Int) - 97) + 10)) rfl) (List.nil_sublist _) ?_
       refine ⟨_, ?_, ?_, rfl, rfl⟩
       · first | exact hexV_a (by omega) (by omega) | exact hexV_b (by omega) (by omega) | exact hexV_c (by omega) (by omega)
       omega
     refine go ?_
     refine jE (.inl rfl) rfl (jC (v := iv (-1)) rfl) (List.nil_sublist _) ?_
     refine ⟨_, ?_, ?_, rfl, rfl⟩
     · first | exact hexV_a (by omega) (by omega) | exact hexV_b (by omega) (by omega) | exact hexV_c (by omega) (by omega)
     omega
   refine go ?_
   refine jE (.inl rfl) rfl (jC (v := iv (-1)) rfl) (List.nil_sublist _) ?_
   refine ⟨_, ?_, ?_, rfl, rfl⟩
   · first | exact hexV_a (by omega) (by omega) | exact hexV_b (by omega) (by omega) | exact hexV_c (by omega) (by omega)
   omega
 refine go ?_
 by_cases h_5 : 97 ≤ ((c.toNat : Nat) : Int)
 · refine go ?_
   by_cases h_6 : ((c.toNat : Nat) : Int) ≤ 102
   · refine go ?_
     refine jK (PO.convI (c := ((c.toNat : Nat) : Int)) kU kW rfl (wr (by omega))) <| jK (jg (c := ((c.toNat : Nat) : Int) - 97) rfl rfl (wr (by omega))) ?_
     refine go ?_
     refine jE (.inl rfl) rfl (jC (v := iv ((((c.toNat : Nat) : Int) - 97) + 10)) rfl) (List.nil_sublist _) ?_
     refine ⟨_, ?_, ?_, rfl, rfl⟩
     · first | exact hexV_a (by omega) (by omega) | exact hexV_b (by omega) (by omega) | exact hexV_c (by omega) (by omega)
     omega
   refine go ?_
   refine jE (.inl rfl) rfl (jC (v := iv (-1)) rfl) (List.nil_sublist _) ?_
   refine ⟨_, ?_, ?_, rfl, rfl⟩
   · first | exact hexV_a (by omega) (by omega) | exact hexV_b (by omega) (by omega) | exact hexV_c (by omega) (by omega)
   omega
 refine go ?_
 refine jE (.inl rfl) rfl (jC (v := iv (-1)) rfl) (List.nil_sublist _) ?_
 refine ⟨_, ?_, ?_, rfl, rfl⟩
 · first | exact hexV_a (by omega) (by omega) | exact hexV_b (by omega) (by omega) | exact hexV_c (by omega) (by omega)
 omega

theorem N_sHex (s : Str) (hs : s.length ≤ 1000000000000) :
   Ct Tryz.prog 132 [str s] ([]) (fun _ => True) (fun v A' => ∃ r0 r1, hexP s = (r0, r1) ∧ r0.length ≤ 40000 ∧ v = .tuple #[str r0, .bool r1] ∧ A' = []) := by
 refine Ct.intro Tryz.func132 rfl Tryz.ntmps132 (lb rfl) fun w0 hpre => ?_
 refine go ?_
 by_cases h_1 : 20000 < (s.length : Int)
 · refine go ?_
   exact jQ [] ⟨[], false, (by first | exact hexP_yes (by assumption) | (rw [hexP_no (by assumption), ← hexAcc_nil, hE])), (by first | omega | (simp only [LE]; omega)), rfl, rfl⟩
 refine go ?_
 refine jF rfl (jR (ps := []) (cur := #[]) kN kg kj rfl (by kernel_rfl) (by decide) (by decide)) ?_
 rintro _ _ ⟨a_2, rfl, rfl⟩
 refine go ?_
 refine jL (fun k_ e_ L_ => ∃ j : Nat, ∃ out_a : Option Addr, ∃ out_c : Nat, ∃ out_ : Str, (j ≤ s.length) ∧ (out_.length ≤ 2 * j) ∧ (hexAcc (s.drop j) out_ = hexAcc s ([] : List UInt8)) ∧ EL e_ [(0, str s), (2, str []), (3, .bool false), (4, .slice out_a out_.length out_c), (5, nv j)] ∧ L_ = [Res.row (.slice out_a out_.length out_c) 5 1 out_.length (out_.map encB)] ∧ k_ = s.length - j) _ ⟨0, a_2, 0, ([] : List UInt8), by omega, (by first | omega | (simp only [LE]; omega)), rfl, EL.go, rfl, rfl⟩ ?_
 rintro _ _ _ ⟨j, out_a, out_c, out_, hj, ho, hR, ⟨_, rfl⟩, rfl, rfl⟩
 refine go ?_
 by_cases h_3 : ((j : Nat) : Int) < (s.length : Int)
 · have hlt : j < s.length := by omega
   have hu8 := UInt8.toNat_lt (s.getD j 0)
   refine go ?_
   refine jH [] 15 ?_
   refine go ?_
   refine jd 4 rfl (PO.convI (c := ((s.getD j 0).toNat : Int)) kU kW rfl (wr (by omega))) ?_
   refine go ?_
   refine jd 10 rfl (PO.convI (c := ((s.getD j 0).toNat : Int)) kU kW rfl (wr (by omega))) ?_
   refine go ?_
   refine jB (i := 6) ?_
   refine jI [] (N_figure (((s.getD j 0).toNat) / 16) (by omega)) ?_
   rintro _ _ ⟨rfl, rfl⟩
   refine jB (i := 12) ?_
   refine jI [] (N_figure (((s.getD j 0).toNat) % 16) (by omega)) ?_
   rintro _ _ ⟨rfl, rfl⟩
   refine jB (i := 13) ?_
   refine ja rfl rfl (jR (ps := [(0, .int .u8 (((hexFig (((s.getD j 0).toNat) / 16)).toNat : Nat) : Int)), (1, .int .u8 (((hexFig (((s.getD j 0).toNat) % 16)).toNat : Nat) : Int))]) (cur := #[.int .u8 (((hexFig (((s.getD j 0).toNat) / 16)).toNat : Nat) : Int), .int .u8 (((hexFig (((s.getD j 0).toNat) % 16)).toNat : Nat) : Int)]) kN kg kj rfl (by kernel_rfl) (by decide) (by decide)) ?_
   rintro _ _ ⟨a_5, rfl, rfl⟩
   refine ⟨all_go, ?_⟩
   refine jB (i := 14) ?_
   refine ja rfl rfl (jX 1 (q := 2) (news := ([hexFig (((s.getD j 0).toNat) / 16), hexFig (((s.getD j 0).toNat) % 16)] : List UInt8).map encB) (n' := (out_ ++ ([hexFig (((s.getD j 0).toNat) / 16), hexFig (((s.getD j 0).toNat) % 16)] : List UInt8)).length) (cs' := (out_ ++ ([hexFig (((s.getD j 0).toNat) / 16), hexFig (((s.getD j 0).toNat) % 16)] : List UInt8)).map encB) rfl kN kN Tryz.typeInfo5 rfl (by' := 1) rfl rfl rfl rfl rfl (fun w hw => Src.sees (hw.see (i := 0) rfl) (oneB _)) (by (try simp only [LE]); omega) (by (try simp only [LE]); omega) (by simp only [List.length_append, List.length_take, List.length_drop, List.length_cons, List.length_nil] <;> first | rfl | omega) (by simp only [List.map_append])) ?_
   rintro _ _ ⟨a_8, c_9, rfl, rfl⟩
   refine ⟨all_go, ?_⟩
   refine go ?_
   exact jP [1] ⟨j + 1, a_8, c_9, (out_ ++ ([hexFig (((s.getD j 0).toNat) / 16), hexFig (((s.getD j 0).toNat) % 16)] : List UInt8)), by omega, (by first | omega | (simp only [LE]; omega)), (by rw [drop_at (getD_some (d := 0) hlt)] at hR; simp only [hexAcc, h_1, h_3, SB] at hR; (repeat (first | rw [if_pos (by omega)] at hR | rw [if_neg (by omega)] at hR)); exact hR), EL.go, rfl, rfl⟩
 rw [List.drop_of_length_le (by omega)] at hR
 simp only [hexAcc] at hR
 have hE := hR.symm
 refine go ?_
 refine jU (LO.toStr 0 out_ rfl kN kU kO rfl rfl) ?_
 refine go ?_
 exact jQ [] ⟨out_, true, (by first | exact hexP_yes (by assumption) | (rw [hexP_no (by assumption), ← hexAcc_nil, hE])), (by first | omega | (simp only [LE]; omega)), rfl, rfl⟩

theorem N_hex (s : Str) (hs : s.length ≤ 1000000000000) :
   Ct Tryz.prog 130 [str s] ([]) (fun _ => True) (fun v A' => ∃ r0 r1, hexP s = (r0, r1) ∧ r0.length ≤ 40000 ∧ v = .tuple #[str r0, .bool r1] ∧ A' = []) := by
 refine Ct.intro Tryz.func130 rfl Tryz.ntmps130 (lb rfl) fun w0 hpre => ?_
 refine go ?_
 by_cases h_1 : 20000 < (s.length : Int)
 · refine go ?_
   exact jQ [] ⟨[], false, (by first | exact hexP_yes (by assumption) | exact hexP_no (by assumption)), (by first | (rw [hexB_len]; omega) | (simp only [List.length_nil]; omega)), rfl, rfl⟩
 refine go ?_
 refine jF rfl (JO.toBytes kO kN kU rfl (by unfold maxLen; omega)) ?_
 rintro _ _ ⟨a_2, c_3, rfl, rfl⟩
 refine jN [] (N_hexEnc a_2 c_3 s (by omega)) (hpre := fun w hw => hw.see (i := 0) rfl) ?_
 refine go ?_
 exact jQ [] ⟨(hexB s), true, (by first | exact hexP_yes (by assumption) | exact hexP_no (by assumption)), (by first | (rw [hexB_len]; omega) | (simp only [List.length_nil]; omega)), rfl, rfl⟩

theorem N_hexOf (s : Str) (hs : s.length ≤ 1000000000000) :
   Ct Tryz.prog 304 [str s] ([]) (fun _ => True) (fun v A' => ∃ r0, hexS s = r0 ∧ r0.length ≤ 40000 ∧ v = str r0 ∧ A' = []) := by
 refine Ct.intro Tryz.func304 rfl Tryz.ntmps304 (lb rfl) fun w0 hpre => ?_
 refine go ?_
 refine jA [] (N_hex s (by omega)) ?_
 rintro _ _ ⟨u_3, b_5, e_1, f_4, rfl, rfl⟩
 refine go ?_
 exact jJ [] ⟨u_3, (by simp only [hexS_P, e_1, SB]; (repeat (first | rw [if_pos (by omega)] | rw [if_neg (by omega)])); all_goals (first | rfl | simp only [SB, e_1])), (by first | omega | (simp only [LE]; omega)), rfl, rfl⟩

theorem N_unhex (t : Str) (ht : t.length ≤ 1000000000000) :
   Ct Tryz.prog 365 [str t] ([]) (fun w => HexOk w) (fun v A' => ∃ r0 r1, unhex t = (r0, r1) ∧ r0.length ≤ 20000 ∧ v = .tuple #[str r0, .bool r1] ∧ A' = []) := by
 refine Ct.introL Tryz.func365 rfl Tryz.ntmps365 (lb rfl) fun w0 hpre hlow => ?_
 refine go ?_
 refine jA [] (N_hexDec t (by omega)) (hpre := fun w hw => hw.hex hlow hpre) ?_
 rintro _ _ ⟨da, dc, dr, ⟨hd, rfl⟩ | ⟨hd, te, pe, rfl⟩, rfl⟩
 · refine go ?_
   refine jK (PO.neqIfN Tryz.underlying293 rfl rfl) ?_
   refine go ?_
   by_cases h_1 : 20000 < ((dr.length : Nat) : Int)
   · refine go ?_
     exact jQ [] ⟨[], false, (by first | exact unhex_err hd | exact unhex_long hd (by assumption) | exact unhex_ne hd (by assumption) | exact unhex_yes hd (by assumption) (by assumption)), (by first | omega | (simp only [LE]; omega)), rfl, rfl⟩
   refine go ?_
   refine jW rfl rfl rfl (cB (dF h_1)) (jO [] Tryz.call254 rfl (N_hexEnc da dc dr (by omega)) rfl (fun w hw => hw.see (i := 0) rfl)) ?_
   rintro _ _ ⟨_, ⟨rfl, rfl⟩, rfl⟩
   refine go ?_
   by_cases h_2 : (hexB dr) = t
   · refine go ?_
     refine jU (LO.toStr 0 dr rfl kN kU kO rfl rfl) ?_
     refine go ?_
     exact jQ [] ⟨dr, true, (by first | exact unhex_err hd | exact unhex_long hd (by assumption) | exact unhex_ne hd (by assumption) | exact unhex_yes hd (by assumption) (by assumption)), (by first | omega | (simp only [LE]; omega)), rfl, rfl⟩
   refine go ?_
   exact jQ [] ⟨[], false, (by first | exact unhex_err hd | exact unhex_long hd (by assumption) | exact unhex_ne hd (by assumption) | exact unhex_yes hd (by assumption) (by assumption)), (by first | omega | (simp only [LE]; omega)), rfl, rfl⟩
 refine go ?_
 refine jK (PO.neqIfS Tryz.underlying293 rfl rfl) ?_
 refine go ?_
 exact jQ [] ⟨[], false, (by first | exact unhex_err hd | exact unhex_long hd (by assumption) | exact unhex_ne hd (by assumption) | exact unhex_yes hd (by assumption) (by assumption)), (by first | omega | (simp only [LE]; omega)), rfl, rfl⟩

theorem N_messageOf (q : Str) (hq : q.length ≤ 1000000000000) :
   Ct Tryz.prog 350 [str q] ([]) (fun w => HexOk w) (fun v A' => ∃ r0, messageOf q = r0 ∧ r0.length ≤ 20000 ∧ v = str r0 ∧ A' = []) := by
 refine Ct.introL Tryz.func350 rfl Tryz.ntmps350 (lb rfl) fun w0 hpre hlow => ?_
 refine go ?_
 refine jA [] (N_cutPrefix q [45]) ?_
 rintro _ _ ⟨u_3, b_5, e_1, f_4, rfl, rfl⟩
 refine go ?_
 rcases Bool.eq_false_or_eq_true (b_5) with h_6 | h_6
 · have hm := messageOf_cutT (e_1.trans (congrArg _ h_6))
   refine go ?_
   refine jA [] (N_unhex u_3 (by omega)) (hpre := fun w hw => hw.hex hlow hpre) ?_
   rintro _ _ ⟨u_9, b_11, e_7, f_10, rfl, rfl⟩
   refine go ?_
   exact jJ [] ⟨u_9, (by simp only [if_true, e_1, h_6, hm, e_7, SB]; (repeat (first | rw [if_pos (by omega)] | rw [if_neg (by omega)])); all_goals (first | rfl | simp only [SB, e_1, h_6, hm, e_7])), (by first | omega | (simp only [LE]; omega)), rfl, rfl⟩
 have hm := messageOf_cutF (e_1.trans (congrArg _ h_6))
 refine go ?_
 exact jJ [] ⟨[], (by simp only [if_true, e_1, h_6, hm, SB]; (repeat (first | rw [if_pos (by omega)] | rw [if_neg (by omega)])); all_goals (first | rfl | simp only [SB, e_1, h_6, hm])), (by first | omega | (simp only [LE]; omega)), rfl, rfl⟩

theorem N_sUnhex (t : Str) (ht : t.length ≤ 1000000000000) :
   Ct Tryz.prog 321 [str t] ([]) (fun _ => True) (fun v A' => ∃ r0 r1, unhex t = (r0, r1) ∧ r0.length ≤ 20000 ∧ v = .tuple #[str r0, .bool r1] ∧ A' = []) := by
 refine Ct.intro Tryz.func321 rfl Tryz.ntmps321 (lb rfl) fun w0 hpre => ?_
 refine go ?_
 by_cases h_1 : 40000 < (t.length : Int)
 · refine go ?_
   exact jQ [] ⟨[], false, (by first | exact unhex_bad (by omega) | exact unhex_some (by rw [List.drop_of_length_le (by omega)] at hR; rw [← hR]; simp [unhexL]) (by assumption) | exact unhex_none (by rw [unhexL_step (by omega)] at hR; simp only [if_true] at hR; rw [if_pos (by omega)] at hR; exact hR.symm)), (by first | omega | (simp only [LE]; omega)), rfl, rfl⟩
 refine go ?_
 by_cases h_2 : ((t.length % 2 : Nat) : Int) = 0
 · refine go ?_
   refine jF rfl (jR (ps := []) (cur := #[]) kN kg kj rfl (by kernel_rfl) (by decide) (by decide)) ?_
   rintro _ _ ⟨a_3, rfl, rfl⟩
   refine go ?_
   refine jL (fun k_ e_ L_ => ∃ j : Nat, ∃ oa : Option Addr, ∃ oc : Nat, ∃ o_ : Str, (j ≤ t.length) ∧ ((t.length - j) % 2 = 0) ∧ (o_.length * 2 ≤ j) ∧ ((unhexL (t.drop j)).map (o_ ++ ·) = unhexL t) ∧ EL e_ [(0, str t), (4, .slice oa o_.length oc), (5, nv j)] ∧ L_ = [Res.row (.slice oa o_.length oc) 5 1 o_.length (o_.map encB)] ∧ k_ = t.length - j) _ ⟨0, a_3, 0, [], by omega, by omega, (by simp), (by simp), EL.go, rfl, rfl⟩ ?_
   rintro _ _ _ ⟨j, oa, oc, o_, hj, hj2, ho, hR, ⟨_, rfl⟩, rfl, rfl⟩
   refine go ?_
   by_cases h_4 : ((j : Nat) : Int) < (t.length : Int)
   · refine go ?_
     have hu_5 := UInt8.toNat_lt (t.getD j 0)
     refine jA [] (N_value (t.getD j 0)) ?_
     rintro _ _ ⟨n_6, e_7, f_8, rfl, rfl⟩
     refine go ?_
     have hu_9 := UInt8.toNat_lt (t.getD (j + 1) 0)
     refine jA [] (N_value (t.getD (j + 1) 0)) ?_
     rintro _ _ ⟨n_10, e_11, f_12, rfl, rfl⟩
     refine go ?_
     by_cases h_13 : n_6 < 0
     · refine go ?_
       exact jQ [] ⟨[], false, (by first | exact unhex_bad (by omega) | exact unhex_some (by rw [List.drop_of_length_le (by omega)] at hR; rw [← hR]; simp [unhexL]) (by assumption) | exact unhex_none (by rw [unhexL_step (by omega)] at hR; simp only [e_7, e_11] at hR; rw [if_pos (by omega)] at hR; exact hR.symm)), (by first | omega | (simp only [LE]; omega)), rfl, rfl⟩
     refine go ?_
     by_cases h_14 : n_10 < 0
     · refine go ?_
       exact jQ [] ⟨[], false, (by first | exact unhex_bad (by omega) | exact unhex_some (by rw [List.drop_of_length_le (by omega)] at hR; rw [← hR]; simp [unhexL]) (by assumption) | exact unhex_none (by rw [unhexL_step (by omega)] at hR; simp only [e_7, e_11] at hR; rw [if_pos (by omega)] at hR; exact hR.symm)), (by first | omega | (simp only [LE]; omega)), rfl, rfl⟩
     refine go ?_
     refine jK (PO.mul (c := 16 * n_6) rfl rfl (wr (by omega))) ?_
     refine go ?_
     refine jK (PO.convI (c := (((UInt8.ofNat ((16 * n_6) + n_10).toNat).toNat : Nat) : Int)) kW kU rfl (wr8u (by omega) rfl)) ?_
     refine jF rfl (jR (ps := [(0, .int .u8 (((UInt8.ofNat ((16 * n_6) + n_10).toNat).toNat : Nat) : Int))]) (cur := #[.int .u8 (((UInt8.ofNat ((16 * n_6) + n_10).toNat).toNat : Nat) : Int)]) kN kg kj rfl (by kernel_rfl) (by decide) (by decide)) ?_
     rintro _ _ ⟨a_15, rfl, rfl⟩
     refine jF rfl (jX 1 (q := 1) (news := ([UInt8.ofNat ((16 * n_6) + n_10).toNat] : List UInt8).map encB) (n' := (o_ ++ ([UInt8.ofNat ((16 * n_6) + n_10).toNat] : List UInt8)).length) (cs' := (o_ ++ ([UInt8.ofNat ((16 * n_6) + n_10).toNat] : List UInt8)).map encB) rfl kN kN Tryz.typeInfo5 rfl (by' := 1) rfl rfl rfl rfl rfl (fun w hw => Src.sees (hw.see (i := 0) rfl) (oneB _)) (by (try simp only [LE]); omega) (by (try simp only [LE]); omega) (by simp only [List.length_append, List.length_take, List.length_drop, List.length_cons, List.length_nil] <;> first | rfl | omega) (by simp only [List.map_append])) ?_
     rintro _ _ ⟨a_16, c_17, rfl, rfl⟩
     refine go ?_
     exact jP [1] ⟨j + 2, a_16, c_17, (o_ ++ ([UInt8.ofNat ((16 * n_6) + n_10).toNat] : List UInt8)), by omega, by omega, (by simp only [List.length_append, List.length_cons, List.length_nil]; omega), (by rw [unhexL_step (by omega)] at hR; simp only [e_7, e_11] at hR; rw [if_neg (by omega)] at hR; exact hR), EL.go, rfl, rfl⟩
   refine go ?_
   refine jU (LO.toStr 0 o_ rfl kN kU kO rfl rfl) ?_
   refine go ?_
   exact jQ [] ⟨o_, true, (unhex_some (by rw [List.drop_of_length_le (by omega)] at hR; exact hR.symm.trans (by simp [unhexL])) (by omega)), (by first | omega | (simp only [LE]; omega)), rfl, rfl⟩
 refine go ?_
 exact jQ [] ⟨[], false, (by first | exact unhex_bad (by omega) | exact unhex_some (by rw [List.drop_of_length_le (by omega)] at hR; rw [← hR]; simp [unhexL]) (by assumption) | exact unhex_none (by rw [unhexL_step (by omega)] at hR; simp only [if_true] at hR; rw [if_pos (by omega)] at hR; exact hR.symm)), (by first | omega | (simp only [LE]; omega)), rfl, rfl⟩
end Go.Proofs.YthlfmbbaomdciaaGreatDoor
