/-
  Texts of the walk, joined: what each one proves stands at its theorems.
-/
import Derived.Test.YtghfijncihbojaaGreatS17NAMES
import Derived.Test.YtghfijncihbojaaGreatDatL
import Derived.Test.YtghfijncihbojaaGreatS24DRAWS
import Derived.Test.YtghfijncihbojaaGreatDatC
set_option linter.unusedSimpArgs false
set_option linter.unusedVariables false
set_option linter.unnecessarySimpa false
namespace Go.Proofs.YtghfijncihbojaaGreat
open Go Go.RowKit
theorem Ct.toMachB {P : Program} {f : FuncId} {args : List Value} {A : List Res} {Pre : World → Prop} {s : List Cell} {n : Nat} (h : Ct P f args A Pre (fun v A' => ∃ a c, v = .agg #[.slice a s.length c, .slice none 0 0, .slice none 0 0] ∧ A' = [rC a c s])) (hO : okC' n 1048576 s) :
    Ct P f args A Pre (fun v A' => ∃ r0x r0, (fun s => (⟨s, [], []⟩ : MS)) s = r0 ∧ r0.ok n 0 ∧ v = mv r0x r0 ∧ A' = mr r0x r0) := fun w hA hp => by
  refine (h w hA hp).mono fun e w' h => ?_
  obtain ⟨v, A', rfl, ⟨a, c, rfl, rfl⟩, hst⟩ := h
  refine ⟨_, mr ⟨a, c, none, 0, none, 0⟩ ⟨s, [], []⟩, rfl, ⟨⟨a, c, none, 0, none, 0⟩, _, rfl, ⟨hO.1, Nat.le_refl _, Nat.le_refl _, fun c hc => hO.2 c hc⟩, rfl, rfl⟩, ?_⟩
  exact ((hst.nilRow 9 1).nilRow 9 1).perm (List.perm_append_comm (l₁ := [rS none 0 [], rS none 0 []]) (l₂ := [rC a c s])).symm
def bootS : List Cell := ((⟨[], [], []⟩ : MS).spawn 0).1.s
theorem MS.ok.okC' {m : MS} {S T : Nat} (h : m.ok S T) : okC' S 1048576 m.s := ⟨h.1, fun c hc => h.2.2.2 c hc⟩
attribute [local irreducible] JL JC JQ JO LO PO JA JX Ct

theorem D_told (c : CL) (hc : c.ok 1048576) :
    Ct Tryz.prog 244 [.agg #[.int .i64 c.kind, str c.name, str c.to_, .int .i64 c.a, .int .i64 c.b, str c.text]] [] (fun _ => True) (fun v A' => ∃ (r0 : CL), r0.ok 1048576 ∧ v = .agg #[.int .i64 r0.kind, str r0.name, str r0.to_, .int .i64 r0.a, .int .i64 r0.b, str r0.text] ∧ A' = []) := by
  refine Ct.intro Tryz.func244 rfl Tryz.ntmps244 (lb rfl) fun w0 hpre => ?_
  obtain ⟨hc1, hc2, hc3, hc4, hc5, hc6⟩ := id hc
  refine jC <| jE ?_
  refine jH rfl (jy (cs := [iv c.kind, str c.name, str c.to_, iv c.a, iv c.b, str c.text]) rfl rfl) ?_
  rintro _ _ ⟨b_1, rfl, rfl⟩
  refine jH rfl (jn (z := .agg #[iv 0, str [], str [], iv 0, iv 0, str []]) (cs := [iv 0, str [], str [], iv 0, iv 0, str []]) gr rfl) ?_
  rintro _ _ ⟨b_2, rfl, rfl⟩
  refine jD <| jB <| jC <| jE <| jA (jJ fo51_0 rfl) <| jK (jV 1 (v := iv c.kind) rfl rfl kp rfl) <| jA (kY (ps := [(0, iv c.kind)]) (cs := [iv c.kind, str [], str [], iv 0, iv 0, str []]) rfl (by kernel_rfl)) ?_
  refine jH rfl (jn (z := .agg #[iv 0, str [], str [], iv 0, iv 0, str []]) (cs := [iv 0, str [], str [], iv 0, iv 0, str []]) gr rfl) ?_
  rintro _ _ ⟨b_3, rfl, rfl⟩
  refine jH rfl (jT 0 (vs := [iv c.kind, str [], str [], iv 0, iv 0, str []]) (cs' := [iv c.kind, str [], str [], iv 0, iv 0, str []]) rfl rfl rfl rfl ko rfl rfl (lb rfl) rfl) ?_
  rintro _ _ rfl
  refine jD <| jB <| jC <| jC <| jE <| jA (jJ fo51_0 rfl) <| jK (jV 2 (v := iv c.kind) rfl rfl kp rfl) <| jD <| jB <| jg ?_
  refine jC <| jC <| jE <| jA (jw rfl rfl) <| jA (jG (v := .bool (decide (c.kind = 1))) rfl) <| jD <| jB ?_
  by_cases h_4 : c.kind = 1
  · refine jO (cB (dT h_4)) <| jU <| jB <| jO (cB (dT h_4)) <| jE <| jA (jJ fo51_1 rfl) <| jK (jV 2 (v := str c.name) rfl rfl kv rfl) <| jA (jJ fo51_1 rfl) ?_
    refine jH rfl (jT 0 (vs := [str c.name]) (cs' := [iv c.kind, str c.name, str [], iv 0, iv 0, str []]) rfl rfl rfl rfl kw rfl rfl (lb rfl) rfl) ?_
    rintro _ _ rfl
    refine jD <| jk <| jB <| jC <| jC <| jE <| jA (jJ fo51_0 rfl) <| jK (jV 2 (v := iv c.kind) rfl rfl kp rfl) <| jD <| jB ?_
    refine jg <| jC <| jC <| jE <| jA (jw rfl rfl) <| jA (jG (v := .bool (decide (c.kind = 2))) rfl) <| jD <| jB ?_
    by_cases h_5 : c.kind = 2
    · refine jO (cB (dT h_5)) <| jU <| jB <| jO (cB (dT h_5)) <| jE <| jA (jJ fo51_2 rfl) <| jK (jV 2 (v := str c.to_) rfl rfl kv rfl) <| jA (jJ fo51_2 rfl) ?_
      refine jH rfl (jT 0 (vs := [str c.to_]) (cs' := [iv c.kind, str c.name, str c.to_, iv 0, iv 0, str []]) rfl rfl rfl rfl kw rfl rfl (lb rfl) rfl) ?_
      rintro _ _ rfl
      refine jD <| jk <| jB <| jC <| jE <| jK (jX 0 (vs := [iv c.kind, str c.name, str c.to_, iv 0, iv 0, str []]) rfl rfl ku ko rfl rfl) ?_
      refine jH rfl (jT 1 (vs := [iv c.kind, str c.name, str c.to_, iv 0, iv 0, str []]) (cs' := [iv c.kind, str c.name, str c.to_, iv 0, iv 0, str []]) rfl rfl rfl rfl ko rfl rfl (lb rfl) rfl) ?_
      rintro _ _ rfl
      refine jD <| jB <| jL <| jR (.inl rfl) rfl (je (jX 1 (vs := [iv c.kind, str c.name, str c.to_, iv 0, iv 0, str []]) rfl rfl ku ko rfl rfl) ⟨_, rfl⟩) (List.nil_sublist _) ?_
      exact ⟨(⟨c.kind, c.name, c.to_, 0, 0, []⟩ : CL), ⟨by (try dsimp only); omega, by (try dsimp only); omega, by (try dsimp only); omega, (show List.length (c.name : Str) ≤ 1048576 by omega), (show List.length (c.to_ : Str) ≤ 1048576 by omega), (show List.length ([] : Str) ≤ 1048576 by decide)⟩, rfl, rfl⟩
    refine jP (cB (dF h_5)) <| jE <| jA (jw rfl rfl) <| jA (jG (v := .bool (decide (c.kind = 4))) rfl) <| jD <| jB ?_
    by_cases h_6 : c.kind = 4
    · refine jO (cB (dT h_6)) <| jE <| jA (jJ fo51_2 rfl) <| jK (jV 2 (v := str c.to_) rfl rfl kv rfl) <| jA (jJ fo51_2 rfl) ?_
      refine jH rfl (jT 0 (vs := [str c.to_]) (cs' := [iv c.kind, str c.name, str c.to_, iv 0, iv 0, str []]) rfl rfl rfl rfl kw rfl rfl (lb rfl) rfl) ?_
      rintro _ _ rfl
      refine jD <| jk <| jB <| jC <| jE <| jK (jX 0 (vs := [iv c.kind, str c.name, str c.to_, iv 0, iv 0, str []]) rfl rfl ku ko rfl rfl) ?_
      refine jH rfl (jT 1 (vs := [iv c.kind, str c.name, str c.to_, iv 0, iv 0, str []]) (cs' := [iv c.kind, str c.name, str c.to_, iv 0, iv 0, str []]) rfl rfl rfl rfl ko rfl rfl (lb rfl) rfl) ?_
      rintro _ _ rfl
      refine jD <| jB <| jL <| jR (.inl rfl) rfl (je (jX 1 (vs := [iv c.kind, str c.name, str c.to_, iv 0, iv 0, str []]) rfl rfl ku ko rfl rfl) ⟨_, rfl⟩) (List.nil_sublist _) ?_
      exact ⟨(⟨c.kind, c.name, c.to_, 0, 0, []⟩ : CL), ⟨by (try dsimp only); omega, by (try dsimp only); omega, by (try dsimp only); omega, (show List.length (c.name : Str) ≤ 1048576 by omega), (show List.length (c.to_ : Str) ≤ 1048576 by omega), (show List.length ([] : Str) ≤ 1048576 by decide)⟩, rfl, rfl⟩
    refine jP (cB (dF h_6)) <| jC <| jC <| jE <| jA (jw rfl rfl) <| jA (jG (v := .bool (decide (c.kind = 6))) rfl) <| jD <| jB ?_
    by_cases h_7 : c.kind = 6
    · refine jO (cB (dT h_7)) <| jU <| jB <| jO (cB (dT h_7)) <| jC <| jE <| jA (jJ fo51_3 rfl) <| jK (jV 2 (v := iv c.a) rfl rfl kp rfl) <| jA (jJ fo51_3 rfl) ?_
      refine jH rfl (jT 0 (vs := [iv c.a]) (cs' := [iv c.kind, str c.name, str [], iv c.a, iv 0, str []]) rfl rfl rfl rfl kt rfl rfl (lb rfl) rfl) ?_
      rintro _ _ rfl
      refine jD <| jB <| jE <| jA (jJ fo51_4 rfl) <| jK (jV 2 (v := iv c.b) rfl rfl kp rfl) <| jA (jJ fo51_4 rfl) ?_
      refine jH rfl (jT 0 (vs := [iv c.b]) (cs' := [iv c.kind, str c.name, str [], iv c.a, iv c.b, str []]) rfl rfl rfl rfl kt rfl rfl (lb rfl) rfl) ?_
      rintro _ _ rfl
      refine jD <| jk <| jB <| jC <| jE <| jK (jX 0 (vs := [iv c.kind, str c.name, str [], iv c.a, iv c.b, str []]) rfl rfl ku ko rfl rfl) ?_
      refine jH rfl (jT 1 (vs := [iv c.kind, str c.name, str [], iv c.a, iv c.b, str []]) (cs' := [iv c.kind, str c.name, str [], iv c.a, iv c.b, str []]) rfl rfl rfl rfl ko rfl rfl (lb rfl) rfl) ?_
      rintro _ _ rfl
      refine jD <| jB <| jL <| jR (.inl rfl) rfl (je (jX 1 (vs := [iv c.kind, str c.name, str [], iv c.a, iv c.b, str []]) rfl rfl ku ko rfl rfl) ⟨_, rfl⟩) (List.nil_sublist _) ?_
      exact ⟨(⟨c.kind, c.name, [], c.a, c.b, []⟩ : CL), ⟨by (try dsimp only); omega, by (try dsimp only); omega, by (try dsimp only); omega, (show List.length (c.name : Str) ≤ 1048576 by omega), (show List.length ([] : Str) ≤ 1048576 by decide), (show List.length ([] : Str) ≤ 1048576 by decide)⟩, rfl, rfl⟩
    refine jP (cB (dF h_7)) <| jE <| jA (jw rfl rfl) <| jA (jG (v := .bool (decide (c.kind = 16))) rfl) <| jD <| jB ?_
    by_cases h_8 : c.kind = 16
    · refine jO (cB (dT h_8)) <| jC <| jE <| jA (jJ fo51_3 rfl) <| jK (jV 2 (v := iv c.a) rfl rfl kp rfl) <| jA (jJ fo51_3 rfl) ?_
      refine jH rfl (jT 0 (vs := [iv c.a]) (cs' := [iv c.kind, str c.name, str [], iv c.a, iv 0, str []]) rfl rfl rfl rfl kt rfl rfl (lb rfl) rfl) ?_
      rintro _ _ rfl
      refine jD <| jB <| jE <| jA (jJ fo51_4 rfl) <| jK (jV 2 (v := iv c.b) rfl rfl kp rfl) <| jA (jJ fo51_4 rfl) ?_
      refine jH rfl (jT 0 (vs := [iv c.b]) (cs' := [iv c.kind, str c.name, str [], iv c.a, iv c.b, str []]) rfl rfl rfl rfl kt rfl rfl (lb rfl) rfl) ?_
      rintro _ _ rfl
      refine jD <| jk <| jB <| jC <| jE <| jK (jX 0 (vs := [iv c.kind, str c.name, str [], iv c.a, iv c.b, str []]) rfl rfl ku ko rfl rfl) ?_
      refine jH rfl (jT 1 (vs := [iv c.kind, str c.name, str [], iv c.a, iv c.b, str []]) (cs' := [iv c.kind, str c.name, str [], iv c.a, iv c.b, str []]) rfl rfl rfl rfl ko rfl rfl (lb rfl) rfl) ?_
      rintro _ _ rfl
      refine jD <| jB <| jL <| jR (.inl rfl) rfl (je (jX 1 (vs := [iv c.kind, str c.name, str [], iv c.a, iv c.b, str []]) rfl rfl ku ko rfl rfl) ⟨_, rfl⟩) (List.nil_sublist _) ?_
      exact ⟨(⟨c.kind, c.name, [], c.a, c.b, []⟩ : CL), ⟨by (try dsimp only); omega, by (try dsimp only); omega, by (try dsimp only); omega, (show List.length (c.name : Str) ≤ 1048576 by omega), (show List.length ([] : Str) ≤ 1048576 by decide), (show List.length ([] : Str) ≤ 1048576 by decide)⟩, rfl, rfl⟩
    refine jP (cB (dF h_8)) <| jC <| jC <| jE <| jA (jw rfl rfl) <| jA (jG (v := .bool (decide (c.kind = 8))) rfl) <| jD <| jB ?_
    by_cases h_9 : c.kind = 8
    · refine jO (cB (dT h_9)) <| jU <| jB <| jO (cB (dT h_9)) <| jE <| jA (jJ fo51_3 rfl) <| jK (jV 2 (v := iv c.a) rfl rfl kp rfl) <| jA (jJ fo51_3 rfl) ?_
      refine jH rfl (jT 0 (vs := [iv c.a]) (cs' := [iv c.kind, str c.name, str [], iv c.a, iv 0, str []]) rfl rfl rfl rfl kt rfl rfl (lb rfl) rfl) ?_
      rintro _ _ rfl
      refine jD <| jk <| jB <| jC <| jE <| jK (jX 0 (vs := [iv c.kind, str c.name, str [], iv c.a, iv 0, str []]) rfl rfl ku ko rfl rfl) ?_
      refine jH rfl (jT 1 (vs := [iv c.kind, str c.name, str [], iv c.a, iv 0, str []]) (cs' := [iv c.kind, str c.name, str [], iv c.a, iv 0, str []]) rfl rfl rfl rfl ko rfl rfl (lb rfl) rfl) ?_
      rintro _ _ rfl
      refine jD <| jB <| jL <| jR (.inl rfl) rfl (je (jX 1 (vs := [iv c.kind, str c.name, str [], iv c.a, iv 0, str []]) rfl rfl ku ko rfl rfl) ⟨_, rfl⟩) (List.nil_sublist _) ?_
      exact ⟨(⟨c.kind, c.name, [], c.a, 0, []⟩ : CL), ⟨by (try dsimp only); omega, by (try dsimp only); omega, by (try dsimp only); omega, (show List.length (c.name : Str) ≤ 1048576 by omega), (show List.length ([] : Str) ≤ 1048576 by decide), (show List.length ([] : Str) ≤ 1048576 by decide)⟩, rfl, rfl⟩
    refine jP (cB (dF h_9)) <| jC <| jE <| jA (jw rfl rfl) <| jA (jG (v := .bool (decide (c.kind = 11))) rfl) <| jD <| jB ?_
    by_cases h_10 : c.kind = 11
    · refine jO (cB (dT h_10)) <| jU <| jB <| jO (cB (dT h_10)) <| jE <| jA (jJ fo51_3 rfl) <| jK (jV 2 (v := iv c.a) rfl rfl kp rfl) <| jA (jJ fo51_3 rfl) ?_
      refine jH rfl (jT 0 (vs := [iv c.a]) (cs' := [iv c.kind, str c.name, str [], iv c.a, iv 0, str []]) rfl rfl rfl rfl kt rfl rfl (lb rfl) rfl) ?_
      rintro _ _ rfl
      refine jD <| jk <| jB <| jC <| jE <| jK (jX 0 (vs := [iv c.kind, str c.name, str [], iv c.a, iv 0, str []]) rfl rfl ku ko rfl rfl) ?_
      refine jH rfl (jT 1 (vs := [iv c.kind, str c.name, str [], iv c.a, iv 0, str []]) (cs' := [iv c.kind, str c.name, str [], iv c.a, iv 0, str []]) rfl rfl rfl rfl ko rfl rfl (lb rfl) rfl) ?_
      rintro _ _ rfl
      refine jD <| jB <| jL <| jR (.inl rfl) rfl (je (jX 1 (vs := [iv c.kind, str c.name, str [], iv c.a, iv 0, str []]) rfl rfl ku ko rfl rfl) ⟨_, rfl⟩) (List.nil_sublist _) ?_
      exact ⟨(⟨c.kind, c.name, [], c.a, 0, []⟩ : CL), ⟨by (try dsimp only); omega, by (try dsimp only); omega, by (try dsimp only); omega, (show List.length (c.name : Str) ≤ 1048576 by omega), (show List.length ([] : Str) ≤ 1048576 by decide), (show List.length ([] : Str) ≤ 1048576 by decide)⟩, rfl, rfl⟩
    refine jP (cB (dF h_10)) <| jC <| jE <| jA (jw rfl rfl) <| jA (jG (v := .bool (decide (c.kind = 13))) rfl) <| jD <| jB ?_
    by_cases h_11 : c.kind = 13
    · refine jO (cB (dT h_11)) <| jU <| jB <| jO (cB (dT h_11)) <| jE <| jA (jJ fo51_3 rfl) <| jK (jV 2 (v := iv c.a) rfl rfl kp rfl) <| jA (jJ fo51_3 rfl) ?_
      refine jH rfl (jT 0 (vs := [iv c.a]) (cs' := [iv c.kind, str c.name, str [], iv c.a, iv 0, str []]) rfl rfl rfl rfl kt rfl rfl (lb rfl) rfl) ?_
      rintro _ _ rfl
      refine jD <| jk <| jB <| jC <| jE <| jK (jX 0 (vs := [iv c.kind, str c.name, str [], iv c.a, iv 0, str []]) rfl rfl ku ko rfl rfl) ?_
      refine jH rfl (jT 1 (vs := [iv c.kind, str c.name, str [], iv c.a, iv 0, str []]) (cs' := [iv c.kind, str c.name, str [], iv c.a, iv 0, str []]) rfl rfl rfl rfl ko rfl rfl (lb rfl) rfl) ?_
      rintro _ _ rfl
      refine jD <| jB <| jL <| jR (.inl rfl) rfl (je (jX 1 (vs := [iv c.kind, str c.name, str [], iv c.a, iv 0, str []]) rfl rfl ku ko rfl rfl) ⟨_, rfl⟩) (List.nil_sublist _) ?_
      exact ⟨(⟨c.kind, c.name, [], c.a, 0, []⟩ : CL), ⟨by (try dsimp only); omega, by (try dsimp only); omega, by (try dsimp only); omega, (show List.length (c.name : Str) ≤ 1048576 by omega), (show List.length ([] : Str) ≤ 1048576 by decide), (show List.length ([] : Str) ≤ 1048576 by decide)⟩, rfl, rfl⟩
    refine jP (cB (dF h_11)) <| jC <| jE <| jA (jw rfl rfl) <| jA (jG (v := .bool (decide (c.kind = 14))) rfl) <| jD <| jB ?_
    by_cases h_12 : c.kind = 14
    · refine jO (cB (dT h_12)) <| jU <| jB <| jO (cB (dT h_12)) <| jE <| jA (jJ fo51_3 rfl) <| jK (jV 2 (v := iv c.a) rfl rfl kp rfl) <| jA (jJ fo51_3 rfl) ?_
      refine jH rfl (jT 0 (vs := [iv c.a]) (cs' := [iv c.kind, str c.name, str [], iv c.a, iv 0, str []]) rfl rfl rfl rfl kt rfl rfl (lb rfl) rfl) ?_
      rintro _ _ rfl
      refine jD <| jk <| jB <| jC <| jE <| jK (jX 0 (vs := [iv c.kind, str c.name, str [], iv c.a, iv 0, str []]) rfl rfl ku ko rfl rfl) ?_
      refine jH rfl (jT 1 (vs := [iv c.kind, str c.name, str [], iv c.a, iv 0, str []]) (cs' := [iv c.kind, str c.name, str [], iv c.a, iv 0, str []]) rfl rfl rfl rfl ko rfl rfl (lb rfl) rfl) ?_
      rintro _ _ rfl
      refine jD <| jB <| jL <| jR (.inl rfl) rfl (je (jX 1 (vs := [iv c.kind, str c.name, str [], iv c.a, iv 0, str []]) rfl rfl ku ko rfl rfl) ⟨_, rfl⟩) (List.nil_sublist _) ?_
      exact ⟨(⟨c.kind, c.name, [], c.a, 0, []⟩ : CL), ⟨by (try dsimp only); omega, by (try dsimp only); omega, by (try dsimp only); omega, (show List.length (c.name : Str) ≤ 1048576 by omega), (show List.length ([] : Str) ≤ 1048576 by decide), (show List.length ([] : Str) ≤ 1048576 by decide)⟩, rfl, rfl⟩
    refine jP (cB (dF h_12)) <| jC <| jE <| jA (jw rfl rfl) <| jA (jG (v := .bool (decide (c.kind = 18))) rfl) <| jD <| jB ?_
    by_cases h_13 : c.kind = 18
    · refine jO (cB (dT h_13)) <| jU <| jB <| jO (cB (dT h_13)) <| jE <| jA (jJ fo51_3 rfl) <| jK (jV 2 (v := iv c.a) rfl rfl kp rfl) <| jA (jJ fo51_3 rfl) ?_
      refine jH rfl (jT 0 (vs := [iv c.a]) (cs' := [iv c.kind, str c.name, str [], iv c.a, iv 0, str []]) rfl rfl rfl rfl kt rfl rfl (lb rfl) rfl) ?_
      rintro _ _ rfl
      refine jD <| jk <| jB <| jC <| jE <| jK (jX 0 (vs := [iv c.kind, str c.name, str [], iv c.a, iv 0, str []]) rfl rfl ku ko rfl rfl) ?_
      refine jH rfl (jT 1 (vs := [iv c.kind, str c.name, str [], iv c.a, iv 0, str []]) (cs' := [iv c.kind, str c.name, str [], iv c.a, iv 0, str []]) rfl rfl rfl rfl ko rfl rfl (lb rfl) rfl) ?_
      rintro _ _ rfl
      refine jD <| jB <| jL <| jR (.inl rfl) rfl (je (jX 1 (vs := [iv c.kind, str c.name, str [], iv c.a, iv 0, str []]) rfl rfl ku ko rfl rfl) ⟨_, rfl⟩) (List.nil_sublist _) ?_
      exact ⟨(⟨c.kind, c.name, [], c.a, 0, []⟩ : CL), ⟨by (try dsimp only); omega, by (try dsimp only); omega, by (try dsimp only); omega, (show List.length (c.name : Str) ≤ 1048576 by omega), (show List.length ([] : Str) ≤ 1048576 by decide), (show List.length ([] : Str) ≤ 1048576 by decide)⟩, rfl, rfl⟩
    refine jP (cB (dF h_13)) <| jC <| jE <| jA (jw rfl rfl) <| jA (jG (v := .bool (decide (c.kind = 19))) rfl) <| jD <| jB ?_
    by_cases h_14 : c.kind = 19
    · refine jO (cB (dT h_14)) <| jU <| jB <| jO (cB (dT h_14)) <| jE <| jA (jJ fo51_3 rfl) <| jK (jV 2 (v := iv c.a) rfl rfl kp rfl) <| jA (jJ fo51_3 rfl) ?_
      refine jH rfl (jT 0 (vs := [iv c.a]) (cs' := [iv c.kind, str c.name, str [], iv c.a, iv 0, str []]) rfl rfl rfl rfl kt rfl rfl (lb rfl) rfl) ?_
      rintro _ _ rfl
      refine jD <| jk <| jB <| jC <| jE <| jK (jX 0 (vs := [iv c.kind, str c.name, str [], iv c.a, iv 0, str []]) rfl rfl ku ko rfl rfl) ?_
      refine jH rfl (jT 1 (vs := [iv c.kind, str c.name, str [], iv c.a, iv 0, str []]) (cs' := [iv c.kind, str c.name, str [], iv c.a, iv 0, str []]) rfl rfl rfl rfl ko rfl rfl (lb rfl) rfl) ?_
      rintro _ _ rfl
      refine jD <| jB <| jL <| jR (.inl rfl) rfl (je (jX 1 (vs := [iv c.kind, str c.name, str [], iv c.a, iv 0, str []]) rfl rfl ku ko rfl rfl) ⟨_, rfl⟩) (List.nil_sublist _) ?_
      exact ⟨(⟨c.kind, c.name, [], c.a, 0, []⟩ : CL), ⟨by (try dsimp only); omega, by (try dsimp only); omega, by (try dsimp only); omega, (show List.length (c.name : Str) ≤ 1048576 by omega), (show List.length ([] : Str) ≤ 1048576 by decide), (show List.length ([] : Str) ≤ 1048576 by decide)⟩, rfl, rfl⟩
    refine jP (cB (dF h_14)) <| jE <| jA (jw rfl rfl) <| jA (jG (v := .bool (decide (c.kind = 21))) rfl) <| jD <| jB ?_
    by_cases h_15 : c.kind = 21
    · refine jO (cB (dT h_15)) <| jE <| jA (jJ fo51_3 rfl) <| jK (jV 2 (v := iv c.a) rfl rfl kp rfl) <| jA (jJ fo51_3 rfl) ?_
      refine jH rfl (jT 0 (vs := [iv c.a]) (cs' := [iv c.kind, str c.name, str [], iv c.a, iv 0, str []]) rfl rfl rfl rfl kt rfl rfl (lb rfl) rfl) ?_
      rintro _ _ rfl
      refine jD <| jk <| jB <| jC <| jE <| jK (jX 0 (vs := [iv c.kind, str c.name, str [], iv c.a, iv 0, str []]) rfl rfl ku ko rfl rfl) ?_
      refine jH rfl (jT 1 (vs := [iv c.kind, str c.name, str [], iv c.a, iv 0, str []]) (cs' := [iv c.kind, str c.name, str [], iv c.a, iv 0, str []]) rfl rfl rfl rfl ko rfl rfl (lb rfl) rfl) ?_
      rintro _ _ rfl
      refine jD <| jB <| jL <| jR (.inl rfl) rfl (je (jX 1 (vs := [iv c.kind, str c.name, str [], iv c.a, iv 0, str []]) rfl rfl ku ko rfl rfl) ⟨_, rfl⟩) (List.nil_sublist _) ?_
      exact ⟨(⟨c.kind, c.name, [], c.a, 0, []⟩ : CL), ⟨by (try dsimp only); omega, by (try dsimp only); omega, by (try dsimp only); omega, (show List.length (c.name : Str) ≤ 1048576 by omega), (show List.length ([] : Str) ≤ 1048576 by decide), (show List.length ([] : Str) ≤ 1048576 by decide)⟩, rfl, rfl⟩
    refine jP (cB (dF h_15)) <| jC <| jC <| jE <| jA (jw rfl rfl) <| jA (jG (v := .bool (decide (c.kind = 7))) rfl) <| jD <| jB ?_
    by_cases h_16 : c.kind = 7
    · refine jO (cB (dT h_16)) <| jU <| jB <| jO (cB (dT h_16)) <| jC <| jE <| jA (jJ fo51_3 rfl) <| jK (jV 2 (v := iv c.a) rfl rfl kp rfl) <| jA (jJ fo51_3 rfl) ?_
      refine jH rfl (jT 0 (vs := [iv c.a]) (cs' := [iv c.kind, str c.name, str [], iv c.a, iv 0, str []]) rfl rfl rfl rfl kt rfl rfl (lb rfl) rfl) ?_
      rintro _ _ rfl
      refine jD <| jB <| jE <| jA (jJ fo51_5 rfl) <| jK (jV 2 (v := str c.text) rfl rfl kv rfl) <| jA (jJ fo51_5 rfl) ?_
      refine jH rfl (jT 0 (vs := [str c.text]) (cs' := [iv c.kind, str c.name, str [], iv c.a, iv 0, str c.text]) rfl rfl rfl rfl kw rfl rfl (lb rfl) rfl) ?_
      rintro _ _ rfl
      refine jD <| jk <| jB <| jC <| jE <| jK (jX 0 (vs := [iv c.kind, str c.name, str [], iv c.a, iv 0, str c.text]) rfl rfl ku ko rfl rfl) ?_
      refine jH rfl (jT 1 (vs := [iv c.kind, str c.name, str [], iv c.a, iv 0, str c.text]) (cs' := [iv c.kind, str c.name, str [], iv c.a, iv 0, str c.text]) rfl rfl rfl rfl ko rfl rfl (lb rfl) rfl) ?_
      rintro _ _ rfl
      refine jD <| jB <| jL <| jR (.inl rfl) rfl (je (jX 1 (vs := [iv c.kind, str c.name, str [], iv c.a, iv 0, str c.text]) rfl rfl ku ko rfl rfl) ⟨_, rfl⟩) (List.nil_sublist _) ?_
      exact ⟨(⟨c.kind, c.name, [], c.a, 0, c.text⟩ : CL), ⟨by (try dsimp only); omega, by (try dsimp only); omega, by (try dsimp only); omega, (show List.length (c.name : Str) ≤ 1048576 by omega), (show List.length ([] : Str) ≤ 1048576 by decide), (show List.length (c.text : Str) ≤ 1048576 by omega)⟩, rfl, rfl⟩
    refine jP (cB (dF h_16)) <| jC <| jE <| jA (jw rfl rfl) <| jA (jG (v := .bool (decide (c.kind = 10))) rfl) <| jD <| jB ?_
    by_cases h_17 : c.kind = 10
    · refine jO (cB (dT h_17)) <| jU <| jB <| jO (cB (dT h_17)) <| jC <| jE <| jA (jJ fo51_3 rfl) <| jK (jV 2 (v := iv c.a) rfl rfl kp rfl) <| jA (jJ fo51_3 rfl) ?_
      refine jH rfl (jT 0 (vs := [iv c.a]) (cs' := [iv c.kind, str c.name, str [], iv c.a, iv 0, str []]) rfl rfl rfl rfl kt rfl rfl (lb rfl) rfl) ?_
      rintro _ _ rfl
      refine jD <| jB <| jE <| jA (jJ fo51_5 rfl) <| jK (jV 2 (v := str c.text) rfl rfl kv rfl) <| jA (jJ fo51_5 rfl) ?_
      refine jH rfl (jT 0 (vs := [str c.text]) (cs' := [iv c.kind, str c.name, str [], iv c.a, iv 0, str c.text]) rfl rfl rfl rfl kw rfl rfl (lb rfl) rfl) ?_
      rintro _ _ rfl
      refine jD <| jk <| jB <| jC <| jE <| jK (jX 0 (vs := [iv c.kind, str c.name, str [], iv c.a, iv 0, str c.text]) rfl rfl ku ko rfl rfl) ?_
      refine jH rfl (jT 1 (vs := [iv c.kind, str c.name, str [], iv c.a, iv 0, str c.text]) (cs' := [iv c.kind, str c.name, str [], iv c.a, iv 0, str c.text]) rfl rfl rfl rfl ko rfl rfl (lb rfl) rfl) ?_
      rintro _ _ rfl
      refine jD <| jB <| jL <| jR (.inl rfl) rfl (je (jX 1 (vs := [iv c.kind, str c.name, str [], iv c.a, iv 0, str c.text]) rfl rfl ku ko rfl rfl) ⟨_, rfl⟩) (List.nil_sublist _) ?_
      exact ⟨(⟨c.kind, c.name, [], c.a, 0, c.text⟩ : CL), ⟨by (try dsimp only); omega, by (try dsimp only); omega, by (try dsimp only); omega, (show List.length (c.name : Str) ≤ 1048576 by omega), (show List.length ([] : Str) ≤ 1048576 by decide), (show List.length (c.text : Str) ≤ 1048576 by omega)⟩, rfl, rfl⟩
    refine jP (cB (dF h_17)) <| jE <| jA (jw rfl rfl) <| jA (jG (v := .bool (decide (c.kind = 20))) rfl) <| jD <| jB ?_
    by_cases h_18 : c.kind = 20
    · refine jO (cB (dT h_18)) <| jC <| jE <| jA (jJ fo51_3 rfl) <| jK (jV 2 (v := iv c.a) rfl rfl kp rfl) <| jA (jJ fo51_3 rfl) ?_
      refine jH rfl (jT 0 (vs := [iv c.a]) (cs' := [iv c.kind, str c.name, str [], iv c.a, iv 0, str []]) rfl rfl rfl rfl kt rfl rfl (lb rfl) rfl) ?_
      rintro _ _ rfl
      refine jD <| jB <| jE <| jA (jJ fo51_5 rfl) <| jK (jV 2 (v := str c.text) rfl rfl kv rfl) <| jA (jJ fo51_5 rfl) ?_
      refine jH rfl (jT 0 (vs := [str c.text]) (cs' := [iv c.kind, str c.name, str [], iv c.a, iv 0, str c.text]) rfl rfl rfl rfl kw rfl rfl (lb rfl) rfl) ?_
      rintro _ _ rfl
      refine jD <| jk <| jB <| jC <| jE <| jK (jX 0 (vs := [iv c.kind, str c.name, str [], iv c.a, iv 0, str c.text]) rfl rfl ku ko rfl rfl) ?_
      refine jH rfl (jT 1 (vs := [iv c.kind, str c.name, str [], iv c.a, iv 0, str c.text]) (cs' := [iv c.kind, str c.name, str [], iv c.a, iv 0, str c.text]) rfl rfl rfl rfl ko rfl rfl (lb rfl) rfl) ?_
      rintro _ _ rfl
      refine jD <| jB <| jL <| jR (.inl rfl) rfl (je (jX 1 (vs := [iv c.kind, str c.name, str [], iv c.a, iv 0, str c.text]) rfl rfl ku ko rfl rfl) ⟨_, rfl⟩) (List.nil_sublist _) ?_
      exact ⟨(⟨c.kind, c.name, [], c.a, 0, c.text⟩ : CL), ⟨by (try dsimp only); omega, by (try dsimp only); omega, by (try dsimp only); omega, (show List.length (c.name : Str) ≤ 1048576 by omega), (show List.length ([] : Str) ≤ 1048576 by decide), (show List.length (c.text : Str) ≤ 1048576 by omega)⟩, rfl, rfl⟩
    refine jP (cB (dF h_18)) <| jC <| jE <| jA (jw rfl rfl) <| jA (jG (v := .bool (decide (c.kind = 22))) rfl) <| jD <| jB ?_
    by_cases h_19 : c.kind = 22
    · refine jO (cB (dT h_19)) <| jE <| jA (jJ fo51_5 rfl) <| jK (jV 2 (v := str c.text) rfl rfl kv rfl) <| jA (jJ fo51_5 rfl) ?_
      refine jH rfl (jT 0 (vs := [str c.text]) (cs' := [iv c.kind, str c.name, str [], iv 0, iv 0, str c.text]) rfl rfl rfl rfl kw rfl rfl (lb rfl) rfl) ?_
      rintro _ _ rfl
      refine jD <| jk <| jB <| jC <| jE <| jK (jX 0 (vs := [iv c.kind, str c.name, str [], iv 0, iv 0, str c.text]) rfl rfl ku ko rfl rfl) ?_
      refine jH rfl (jT 1 (vs := [iv c.kind, str c.name, str [], iv 0, iv 0, str c.text]) (cs' := [iv c.kind, str c.name, str [], iv 0, iv 0, str c.text]) rfl rfl rfl rfl ko rfl rfl (lb rfl) rfl) ?_
      rintro _ _ rfl
      refine jD <| jB <| jL <| jR (.inl rfl) rfl (je (jX 1 (vs := [iv c.kind, str c.name, str [], iv 0, iv 0, str c.text]) rfl rfl ku ko rfl rfl) ⟨_, rfl⟩) (List.nil_sublist _) ?_
      exact ⟨(⟨c.kind, c.name, [], 0, 0, c.text⟩ : CL), ⟨by (try dsimp only); omega, by (try dsimp only); omega, by (try dsimp only); omega, (show List.length (c.name : Str) ≤ 1048576 by omega), (show List.length ([] : Str) ≤ 1048576 by decide), (show List.length (c.text : Str) ≤ 1048576 by omega)⟩, rfl, rfl⟩
    refine jP (cB (dF h_19)) <| jU <| jk <| jB <| jC <| jE <| jK (jX 0 (vs := [iv c.kind, str c.name, str [], iv 0, iv 0, str []]) rfl rfl ku ko rfl rfl) ?_
    refine jH rfl (jT 1 (vs := [iv c.kind, str c.name, str [], iv 0, iv 0, str []]) (cs' := [iv c.kind, str c.name, str [], iv 0, iv 0, str []]) rfl rfl rfl rfl ko rfl rfl (lb rfl) rfl) ?_
    rintro _ _ rfl
    refine jD <| jB <| jL <| jR (.inl rfl) rfl (je (jX 1 (vs := [iv c.kind, str c.name, str [], iv 0, iv 0, str []]) rfl rfl ku ko rfl rfl) ⟨_, rfl⟩) (List.nil_sublist _) ?_
    exact ⟨(⟨c.kind, c.name, [], 0, 0, []⟩ : CL), ⟨by (try dsimp only); omega, by (try dsimp only); omega, by (try dsimp only); omega, (show List.length (c.name : Str) ≤ 1048576 by omega), (show List.length ([] : Str) ≤ 1048576 by decide), (show List.length ([] : Str) ≤ 1048576 by decide)⟩, rfl, rfl⟩
  refine jP (cB (dF h_4)) <| jC <| jE <| jA (jw rfl rfl) <| jA (jG (v := .bool (decide (c.kind = 3))) rfl) <| jD <| jB ?_
  by_cases h_20 : c.kind = 3
  · refine jO (cB (dT h_20)) <| jU <| jB <| jO (cB (dT h_20)) <| jE <| jA (jJ fo51_1 rfl) <| jK (jV 2 (v := str c.name) rfl rfl kv rfl) <| jA (jJ fo51_1 rfl) ?_
    refine jH rfl (jT 0 (vs := [str c.name]) (cs' := [iv c.kind, str c.name, str [], iv 0, iv 0, str []]) rfl rfl rfl rfl kw rfl rfl (lb rfl) rfl) ?_
    rintro _ _ rfl
    refine jD <| jk <| jB <| jC <| jC <| jE <| jA (jJ fo51_0 rfl) <| jK (jV 2 (v := iv c.kind) rfl rfl kp rfl) <| jD <| jB ?_
    refine jg <| jC <| jC <| jE <| jA (jw rfl rfl) <| jA (jG (v := .bool (decide (c.kind = 2))) rfl) <| jD <| jB ?_
    by_cases h_21 : c.kind = 2
    · refine jO (cB (dT h_21)) <| jU <| jB <| jO (cB (dT h_21)) <| jE <| jA (jJ fo51_2 rfl) <| jK (jV 2 (v := str c.to_) rfl rfl kv rfl) <| jA (jJ fo51_2 rfl) ?_
      refine jH rfl (jT 0 (vs := [str c.to_]) (cs' := [iv c.kind, str c.name, str c.to_, iv 0, iv 0, str []]) rfl rfl rfl rfl kw rfl rfl (lb rfl) rfl) ?_
      rintro _ _ rfl
      refine jD <| jk <| jB <| jC <| jE <| jK (jX 0 (vs := [iv c.kind, str c.name, str c.to_, iv 0, iv 0, str []]) rfl rfl ku ko rfl rfl) ?_
      refine jH rfl (jT 1 (vs := [iv c.kind, str c.name, str c.to_, iv 0, iv 0, str []]) (cs' := [iv c.kind, str c.name, str c.to_, iv 0, iv 0, str []]) rfl rfl rfl rfl ko rfl rfl (lb rfl) rfl) ?_
      rintro _ _ rfl
      refine jD <| jB <| jL <| jR (.inl rfl) rfl (je (jX 1 (vs := [iv c.kind, str c.name, str c.to_, iv 0, iv 0, str []]) rfl rfl ku ko rfl rfl) ⟨_, rfl⟩) (List.nil_sublist _) ?_
      exact ⟨(⟨c.kind, c.name, c.to_, 0, 0, []⟩ : CL), ⟨by (try dsimp only); omega, by (try dsimp only); omega, by (try dsimp only); omega, (show List.length (c.name : Str) ≤ 1048576 by omega), (show List.length (c.to_ : Str) ≤ 1048576 by omega), (show List.length ([] : Str) ≤ 1048576 by decide)⟩, rfl, rfl⟩
    refine jP (cB (dF h_21)) <| jE <| jA (jw rfl rfl) <| jA (jG (v := .bool (decide (c.kind = 4))) rfl) <| jD <| jB ?_
    by_cases h_22 : c.kind = 4
    · refine jO (cB (dT h_22)) <| jE <| jA (jJ fo51_2 rfl) <| jK (jV 2 (v := str c.to_) rfl rfl kv rfl) <| jA (jJ fo51_2 rfl) ?_
      refine jH rfl (jT 0 (vs := [str c.to_]) (cs' := [iv c.kind, str c.name, str c.to_, iv 0, iv 0, str []]) rfl rfl rfl rfl kw rfl rfl (lb rfl) rfl) ?_
      rintro _ _ rfl
      refine jD <| jk <| jB <| jC <| jE <| jK (jX 0 (vs := [iv c.kind, str c.name, str c.to_, iv 0, iv 0, str []]) rfl rfl ku ko rfl rfl) ?_
      refine jH rfl (jT 1 (vs := [iv c.kind, str c.name, str c.to_, iv 0, iv 0, str []]) (cs' := [iv c.kind, str c.name, str c.to_, iv 0, iv 0, str []]) rfl rfl rfl rfl ko rfl rfl (lb rfl) rfl) ?_
      rintro _ _ rfl
      refine jD <| jB <| jL <| jR (.inl rfl) rfl (je (jX 1 (vs := [iv c.kind, str c.name, str c.to_, iv 0, iv 0, str []]) rfl rfl ku ko rfl rfl) ⟨_, rfl⟩) (List.nil_sublist _) ?_
      exact ⟨(⟨c.kind, c.name, c.to_, 0, 0, []⟩ : CL), ⟨by (try dsimp only); omega, by (try dsimp only); omega, by (try dsimp only); omega, (show List.length (c.name : Str) ≤ 1048576 by omega), (show List.length (c.to_ : Str) ≤ 1048576 by omega), (show List.length ([] : Str) ≤ 1048576 by decide)⟩, rfl, rfl⟩
    refine jP (cB (dF h_22)) <| jC <| jC <| jE <| jA (jw rfl rfl) <| jA (jG (v := .bool (decide (c.kind = 6))) rfl) <| jD <| jB ?_
    by_cases h_23 : c.kind = 6
    · refine jO (cB (dT h_23)) <| jU <| jB <| jO (cB (dT h_23)) <| jC <| jE <| jA (jJ fo51_3 rfl) <| jK (jV 2 (v := iv c.a) rfl rfl kp rfl) <| jA (jJ fo51_3 rfl) ?_
      refine jH rfl (jT 0 (vs := [iv c.a]) (cs' := [iv c.kind, str c.name, str [], iv c.a, iv 0, str []]) rfl rfl rfl rfl kt rfl rfl (lb rfl) rfl) ?_
      rintro _ _ rfl
      refine jD <| jB <| jE <| jA (jJ fo51_4 rfl) <| jK (jV 2 (v := iv c.b) rfl rfl kp rfl) <| jA (jJ fo51_4 rfl) ?_
      refine jH rfl (jT 0 (vs := [iv c.b]) (cs' := [iv c.kind, str c.name, str [], iv c.a, iv c.b, str []]) rfl rfl rfl rfl kt rfl rfl (lb rfl) rfl) ?_
      rintro _ _ rfl
      refine jD <| jk <| jB <| jC <| jE <| jK (jX 0 (vs := [iv c.kind, str c.name, str [], iv c.a, iv c.b, str []]) rfl rfl ku ko rfl rfl) ?_
      refine jH rfl (jT 1 (vs := [iv c.kind, str c.name, str [], iv c.a, iv c.b, str []]) (cs' := [iv c.kind, str c.name, str [], iv c.a, iv c.b, str []]) rfl rfl rfl rfl ko rfl rfl (lb rfl) rfl) ?_
      rintro _ _ rfl
      refine jD <| jB <| jL <| jR (.inl rfl) rfl (je (jX 1 (vs := [iv c.kind, str c.name, str [], iv c.a, iv c.b, str []]) rfl rfl ku ko rfl rfl) ⟨_, rfl⟩) (List.nil_sublist _) ?_
      exact ⟨(⟨c.kind, c.name, [], c.a, c.b, []⟩ : CL), ⟨by (try dsimp only); omega, by (try dsimp only); omega, by (try dsimp only); omega, (show List.length (c.name : Str) ≤ 1048576 by omega), (show List.length ([] : Str) ≤ 1048576 by decide), (show List.length ([] : Str) ≤ 1048576 by decide)⟩, rfl, rfl⟩
    refine jP (cB (dF h_23)) <| jE <| jA (jw rfl rfl) <| jA (jG (v := .bool (decide (c.kind = 16))) rfl) <| jD <| jB ?_
    by_cases h_24 : c.kind = 16
    · refine jO (cB (dT h_24)) <| jC <| jE <| jA (jJ fo51_3 rfl) <| jK (jV 2 (v := iv c.a) rfl rfl kp rfl) <| jA (jJ fo51_3 rfl) ?_
      refine jH rfl (jT 0 (vs := [iv c.a]) (cs' := [iv c.kind, str c.name, str [], iv c.a, iv 0, str []]) rfl rfl rfl rfl kt rfl rfl (lb rfl) rfl) ?_
      rintro _ _ rfl
      refine jD <| jB <| jE <| jA (jJ fo51_4 rfl) <| jK (jV 2 (v := iv c.b) rfl rfl kp rfl) <| jA (jJ fo51_4 rfl) ?_
      refine jH rfl (jT 0 (vs := [iv c.b]) (cs' := [iv c.kind, str c.name, str [], iv c.a, iv c.b, str []]) rfl rfl rfl rfl kt rfl rfl (lb rfl) rfl) ?_
      rintro _ _ rfl
      refine jD <| jk <| jB <| jC <| jE <| jK (jX 0 (vs := [iv c.kind, str c.name, str [], iv c.a, iv c.b, str []]) rfl rfl ku ko rfl rfl) ?_
      refine jH rfl (jT 1 (vs := [iv c.kind, str c.name, str [], iv c.a, iv c.b, str []]) (cs' := [iv c.kind, str c.name, str [], iv c.a, iv c.b, str []]) rfl rfl rfl rfl ko rfl rfl (lb rfl) rfl) ?_
      rintro _ _ rfl
      refine jD <| jB <| jL <| jR (.inl rfl) rfl (je (jX 1 (vs := [iv c.kind, str c.name, str [], iv c.a, iv c.b, str []]) rfl rfl ku ko rfl rfl) ⟨_, rfl⟩) (List.nil_sublist _) ?_
      exact ⟨(⟨c.kind, c.name, [], c.a, c.b, []⟩ : CL), ⟨by (try dsimp only); omega, by (try dsimp only); omega, by (try dsimp only); omega, (show List.length (c.name : Str) ≤ 1048576 by omega), (show List.length ([] : Str) ≤ 1048576 by decide), (show List.length ([] : Str) ≤ 1048576 by decide)⟩, rfl, rfl⟩
    refine jP (cB (dF h_24)) <| jC <| jC <| jE <| jA (jw rfl rfl) <| jA (jG (v := .bool (decide (c.kind = 8))) rfl) <| jD <| jB ?_
    by_cases h_25 : c.kind = 8
    · refine jO (cB (dT h_25)) <| jU <| jB <| jO (cB (dT h_25)) <| jE <| jA (jJ fo51_3 rfl) <| jK (jV 2 (v := iv c.a) rfl rfl kp rfl) <| jA (jJ fo51_3 rfl) ?_
      refine jH rfl (jT 0 (vs := [iv c.a]) (cs' := [iv c.kind, str c.name, str [], iv c.a, iv 0, str []]) rfl rfl rfl rfl kt rfl rfl (lb rfl) rfl) ?_
      rintro _ _ rfl
      refine jD <| jk <| jB <| jC <| jE <| jK (jX 0 (vs := [iv c.kind, str c.name, str [], iv c.a, iv 0, str []]) rfl rfl ku ko rfl rfl) ?_
      refine jH rfl (jT 1 (vs := [iv c.kind, str c.name, str [], iv c.a, iv 0, str []]) (cs' := [iv c.kind, str c.name, str [], iv c.a, iv 0, str []]) rfl rfl rfl rfl ko rfl rfl (lb rfl) rfl) ?_
      rintro _ _ rfl
      refine jD <| jB <| jL <| jR (.inl rfl) rfl (je (jX 1 (vs := [iv c.kind, str c.name, str [], iv c.a, iv 0, str []]) rfl rfl ku ko rfl rfl) ⟨_, rfl⟩) (List.nil_sublist _) ?_
      exact ⟨(⟨c.kind, c.name, [], c.a, 0, []⟩ : CL), ⟨by (try dsimp only); omega, by (try dsimp only); omega, by (try dsimp only); omega, (show List.length (c.name : Str) ≤ 1048576 by omega), (show List.length ([] : Str) ≤ 1048576 by decide), (show List.length ([] : Str) ≤ 1048576 by decide)⟩, rfl, rfl⟩
    refine jP (cB (dF h_25)) <| jC <| jE <| jA (jw rfl rfl) <| jA (jG (v := .bool (decide (c.kind = 11))) rfl) <| jD <| jB ?_
    by_cases h_26 : c.kind = 11
    · refine jO (cB (dT h_26)) <| jU <| jB <| jO (cB (dT h_26)) <| jE <| jA (jJ fo51_3 rfl) <| jK (jV 2 (v := iv c.a) rfl rfl kp rfl) <| jA (jJ fo51_3 rfl) ?_
      refine jH rfl (jT 0 (vs := [iv c.a]) (cs' := [iv c.kind, str c.name, str [], iv c.a, iv 0, str []]) rfl rfl rfl rfl kt rfl rfl (lb rfl) rfl) ?_
      rintro _ _ rfl
      refine jD <| jk <| jB <| jC <| jE <| jK (jX 0 (vs := [iv c.kind, str c.name, str [], iv c.a, iv 0, str []]) rfl rfl ku ko rfl rfl) ?_
      refine jH rfl (jT 1 (vs := [iv c.kind, str c.name, str [], iv c.a, iv 0, str []]) (cs' := [iv c.kind, str c.name, str [], iv c.a, iv 0, str []]) rfl rfl rfl rfl ko rfl rfl (lb rfl) rfl) ?_
      rintro _ _ rfl
      refine jD <| jB <| jL <| jR (.inl rfl) rfl (je (jX 1 (vs := [iv c.kind, str c.name, str [], iv c.a, iv 0, str []]) rfl rfl ku ko rfl rfl) ⟨_, rfl⟩) (List.nil_sublist _) ?_
      exact ⟨(⟨c.kind, c.name, [], c.a, 0, []⟩ : CL), ⟨by (try dsimp only); omega, by (try dsimp only); omega, by (try dsimp only); omega, (show List.length (c.name : Str) ≤ 1048576 by omega), (show List.length ([] : Str) ≤ 1048576 by decide), (show List.length ([] : Str) ≤ 1048576 by decide)⟩, rfl, rfl⟩
    refine jP (cB (dF h_26)) <| jC <| jE <| jA (jw rfl rfl) <| jA (jG (v := .bool (decide (c.kind = 13))) rfl) <| jD <| jB ?_
    by_cases h_27 : c.kind = 13
    · refine jO (cB (dT h_27)) <| jU <| jB <| jO (cB (dT h_27)) <| jE <| jA (jJ fo51_3 rfl) <| jK (jV 2 (v := iv c.a) rfl rfl kp rfl) <| jA (jJ fo51_3 rfl) ?_
      refine jH rfl (jT 0 (vs := [iv c.a]) (cs' := [iv c.kind, str c.name, str [], iv c.a, iv 0, str []]) rfl rfl rfl rfl kt rfl rfl (lb rfl) rfl) ?_
      rintro _ _ rfl
      refine jD <| jk <| jB <| jC <| jE <| jK (jX 0 (vs := [iv c.kind, str c.name, str [], iv c.a, iv 0, str []]) rfl rfl ku ko rfl rfl) ?_
      refine jH rfl (jT 1 (vs := [iv c.kind, str c.name, str [], iv c.a, iv 0, str []]) (cs' := [iv c.kind, str c.name, str [], iv c.a, iv 0, str []]) rfl rfl rfl rfl ko rfl rfl (lb rfl) rfl) ?_
      rintro _ _ rfl
      refine jD <| jB <| jL <| jR (.inl rfl) rfl (je (jX 1 (vs := [iv c.kind, str c.name, str [], iv c.a, iv 0, str []]) rfl rfl ku ko rfl rfl) ⟨_, rfl⟩) (List.nil_sublist _) ?_
      exact ⟨(⟨c.kind, c.name, [], c.a, 0, []⟩ : CL), ⟨by (try dsimp only); omega, by (try dsimp only); omega, by (try dsimp only); omega, (show List.length (c.name : Str) ≤ 1048576 by omega), (show List.length ([] : Str) ≤ 1048576 by decide), (show List.length ([] : Str) ≤ 1048576 by decide)⟩, rfl, rfl⟩
    refine jP (cB (dF h_27)) <| jC <| jE <| jA (jw rfl rfl) <| jA (jG (v := .bool (decide (c.kind = 14))) rfl) <| jD <| jB ?_
    by_cases h_28 : c.kind = 14
    · refine jO (cB (dT h_28)) <| jU <| jB <| jO (cB (dT h_28)) <| jE <| jA (jJ fo51_3 rfl) <| jK (jV 2 (v := iv c.a) rfl rfl kp rfl) <| jA (jJ fo51_3 rfl) ?_
      refine jH rfl (jT 0 (vs := [iv c.a]) (cs' := [iv c.kind, str c.name, str [], iv c.a, iv 0, str []]) rfl rfl rfl rfl kt rfl rfl (lb rfl) rfl) ?_
      rintro _ _ rfl
      refine jD <| jk <| jB <| jC <| jE <| jK (jX 0 (vs := [iv c.kind, str c.name, str [], iv c.a, iv 0, str []]) rfl rfl ku ko rfl rfl) ?_
      refine jH rfl (jT 1 (vs := [iv c.kind, str c.name, str [], iv c.a, iv 0, str []]) (cs' := [iv c.kind, str c.name, str [], iv c.a, iv 0, str []]) rfl rfl rfl rfl ko rfl rfl (lb rfl) rfl) ?_
      rintro _ _ rfl
      refine jD <| jB <| jL <| jR (.inl rfl) rfl (je (jX 1 (vs := [iv c.kind, str c.name, str [], iv c.a, iv 0, str []]) rfl rfl ku ko rfl rfl) ⟨_, rfl⟩) (List.nil_sublist _) ?_
      exact ⟨(⟨c.kind, c.name, [], c.a, 0, []⟩ : CL), ⟨by (try dsimp only); omega, by (try dsimp only); omega, by (try dsimp only); omega, (show List.length (c.name : Str) ≤ 1048576 by omega), (show List.length ([] : Str) ≤ 1048576 by decide), (show List.length ([] : Str) ≤ 1048576 by decide)⟩, rfl, rfl⟩
    refine jP (cB (dF h_28)) <| jC <| jE <| jA (jw rfl rfl) <| jA (jG (v := .bool (decide (c.kind = 18))) rfl) <| jD <| jB ?_
    by_cases h_29 : c.kind = 18
    · refine jO (cB (dT h_29)) <| jU <| jB <| jO (cB (dT h_29)) <| jE <| jA (jJ fo51_3 rfl) <| jK (jV 2 (v := iv c.a) rfl rfl kp rfl) <| jA (jJ fo51_3 rfl) ?_
      refine jH rfl (jT 0 (vs := [iv c.a]) (cs' := [iv c.kind, str c.name, str [], iv c.a, iv 0, str []]) rfl rfl rfl rfl kt rfl rfl (lb rfl) rfl) ?_
      rintro _ _ rfl
      refine jD <| jk <| jB <| jC <| jE <| jK (jX 0 (vs := [iv c.kind, str c.name, str [], iv c.a, iv 0, str []]) rfl rfl ku ko rfl rfl) ?_
      refine jH rfl (jT 1 (vs := [iv c.kind, str c.name, str [], iv c.a, iv 0, str []]) (cs' := [iv c.kind, str c.name, str [], iv c.a, iv 0, str []]) rfl rfl rfl rfl ko rfl rfl (lb rfl) rfl) ?_
      rintro _ _ rfl
      refine jD <| jB <| jL <| jR (.inl rfl) rfl (je (jX 1 (vs := [iv c.kind, str c.name, str [], iv c.a, iv 0, str []]) rfl rfl ku ko rfl rfl) ⟨_, rfl⟩) (List.nil_sublist _) ?_
      exact ⟨(⟨c.kind, c.name, [], c.a, 0, []⟩ : CL), ⟨by (try dsimp only); omega, by (try dsimp only); omega, by (try dsimp only); omega, (show List.length (c.name : Str) ≤ 1048576 by omega), (show List.length ([] : Str) ≤ 1048576 by decide), (show List.length ([] : Str) ≤ 1048576 by decide)⟩, rfl, rfl⟩
    refine jP (cB (dF h_29)) <| jC <| jE <| jA (jw rfl rfl) <| jA (jG (v := .bool (decide (c.kind = 19))) rfl) <| jD <| jB ?_
    by_cases h_30 : c.kind = 19
    · refine jO (cB (dT h_30)) <| jU <| jB <| jO (cB (dT h_30)) <| jE <| jA (jJ fo51_3 rfl) <| jK (jV 2 (v := iv c.a) rfl rfl kp rfl) <| jA (jJ fo51_3 rfl) ?_
      refine jH rfl (jT 0 (vs := [iv c.a]) (cs' := [iv c.kind, str c.name, str [], iv c.a, iv 0, str []]) rfl rfl rfl rfl kt rfl rfl (lb rfl) rfl) ?_
      rintro _ _ rfl
      refine jD <| jk <| jB <| jC <| jE <| jK (jX 0 (vs := [iv c.kind, str c.name, str [], iv c.a, iv 0, str []]) rfl rfl ku ko rfl rfl) ?_
      refine jH rfl (jT 1 (vs := [iv c.kind, str c.name, str [], iv c.a, iv 0, str []]) (cs' := [iv c.kind, str c.name, str [], iv c.a, iv 0, str []]) rfl rfl rfl rfl ko rfl rfl (lb rfl) rfl) ?_
      rintro _ _ rfl
      refine jD <| jB <| jL <| jR (.inl rfl) rfl (je (jX 1 (vs := [iv c.kind, str c.name, str [], iv c.a, iv 0, str []]) rfl rfl ku ko rfl rfl) ⟨_, rfl⟩) (List.nil_sublist _) ?_
      exact ⟨(⟨c.kind, c.name, [], c.a, 0, []⟩ : CL), ⟨by (try dsimp only); omega, by (try dsimp only); omega, by (try dsimp only); omega, (show List.length (c.name : Str) ≤ 1048576 by omega), (show List.length ([] : Str) ≤ 1048576 by decide), (show List.length ([] : Str) ≤ 1048576 by decide)⟩, rfl, rfl⟩
    refine jP (cB (dF h_30)) <| jE <| jA (jw rfl rfl) <| jA (jG (v := .bool (decide (c.kind = 21))) rfl) <| jD <| jB ?_
    by_cases h_31 : c.kind = 21
    · refine jO (cB (dT h_31)) <| jE <| jA (jJ fo51_3 rfl) <| jK (jV 2 (v := iv c.a) rfl rfl kp rfl) <| jA (jJ fo51_3 rfl) ?_
      refine jH rfl (jT 0 (vs := [iv c.a]) (cs' := [iv c.kind, str c.name, str [], iv c.a, iv 0, str []]) rfl rfl rfl rfl kt rfl rfl (lb rfl) rfl) ?_
      rintro _ _ rfl
      refine jD <| jk <| jB <| jC <| jE <| jK (jX 0 (vs := [iv c.kind, str c.name, str [], iv c.a, iv 0, str []]) rfl rfl ku ko rfl rfl) ?_
      refine jH rfl (jT 1 (vs := [iv c.kind, str c.name, str [], iv c.a, iv 0, str []]) (cs' := [iv c.kind, str c.name, str [], iv c.a, iv 0, str []]) rfl rfl rfl rfl ko rfl rfl (lb rfl) rfl) ?_
      rintro _ _ rfl
      refine jD <| jB <| jL <| jR (.inl rfl) rfl (je (jX 1 (vs := [iv c.kind, str c.name, str [], iv c.a, iv 0, str []]) rfl rfl ku ko rfl rfl) ⟨_, rfl⟩) (List.nil_sublist _) ?_
      exact ⟨(⟨c.kind, c.name, [], c.a, 0, []⟩ : CL), ⟨by (try dsimp only); omega, by (try dsimp only); omega, by (try dsimp only); omega, (show List.length (c.name : Str) ≤ 1048576 by omega), (show List.length ([] : Str) ≤ 1048576 by decide), (show List.length ([] : Str) ≤ 1048576 by decide)⟩, rfl, rfl⟩
    refine jP (cB (dF h_31)) <| jC <| jC <| jE <| jA (jw rfl rfl) <| jA (jG (v := .bool (decide (c.kind = 7))) rfl) <| jD <| jB ?_
    by_cases h_32 : c.kind = 7
    · refine jO (cB (dT h_32)) <| jU <| jB <| jO (cB (dT h_32)) <| jC <| jE <| jA (jJ fo51_3 rfl) <| jK (jV 2 (v := iv c.a) rfl rfl kp rfl) <| jA (jJ fo51_3 rfl) ?_
      refine jH rfl (jT 0 (vs := [iv c.a]) (cs' := [iv c.kind, str c.name, str [], iv c.a, iv 0, str []]) rfl rfl rfl rfl kt rfl rfl (lb rfl) rfl) ?_
      rintro _ _ rfl
      refine jD <| jB <| jE <| jA (jJ fo51_5 rfl) <| jK (jV 2 (v := str c.text) rfl rfl kv rfl) <| jA (jJ fo51_5 rfl) ?_
      refine jH rfl (jT 0 (vs := [str c.text]) (cs' := [iv c.kind, str c.name, str [], iv c.a, iv 0, str c.text]) rfl rfl rfl rfl kw rfl rfl (lb rfl) rfl) ?_
      rintro _ _ rfl
      refine jD <| jk <| jB <| jC <| jE <| jK (jX 0 (vs := [iv c.kind, str c.name, str [], iv c.a, iv 0, str c.text]) rfl rfl ku ko rfl rfl) ?_
      refine jH rfl (jT 1 (vs := [iv c.kind, str c.name, str [], iv c.a, iv 0, str c.text]) (cs' := [iv c.kind, str c.name, str [], iv c.a, iv 0, str c.text]) rfl rfl rfl rfl ko rfl rfl (lb rfl) rfl) ?_
      rintro _ _ rfl
      refine jD <| jB <| jL <| jR (.inl rfl) rfl (je (jX 1 (vs := [iv c.kind, str c.name, str [], iv c.a, iv 0, str c.text]) rfl rfl ku ko rfl rfl) ⟨_, rfl⟩) (List.nil_sublist _) ?_
      exact ⟨(⟨c.kind, c.name, [], c.a, 0, c.text⟩ : CL), ⟨by (try dsimp only); omega, by (try dsimp only); omega, by (try dsimp only); omega, (show List.length (c.name : Str) ≤ 1048576 by omega), (show List.length ([] : Str) ≤ 1048576 by decide), (show List.length (c.text : Str) ≤ 1048576 by omega)⟩, rfl, rfl⟩
    refine jP (cB (dF h_32)) <| jC <| jE <| jA (jw rfl rfl) <| jA (jG (v := .bool (decide (c.kind = 10))) rfl) <| jD <| jB ?_
    by_cases h_33 : c.kind = 10
    · refine jO (cB (dT h_33)) <| jU <| jB <| jO (cB (dT h_33)) <| jC <| jE <| jA (jJ fo51_3 rfl) <| jK (jV 2 (v := iv c.a) rfl rfl kp rfl) <| jA (jJ fo51_3 rfl) ?_
      refine jH rfl (jT 0 (vs := [iv c.a]) (cs' := [iv c.kind, str c.name, str [], iv c.a, iv 0, str []]) rfl rfl rfl rfl kt rfl rfl (lb rfl) rfl) ?_
      rintro _ _ rfl
      refine jD <| jB <| jE <| jA (jJ fo51_5 rfl) <| jK (jV 2 (v := str c.text) rfl rfl kv rfl) <| jA (jJ fo51_5 rfl) ?_
      refine jH rfl (jT 0 (vs := [str c.text]) (cs' := [iv c.kind, str c.name, str [], iv c.a, iv 0, str c.text]) rfl rfl rfl rfl kw rfl rfl (lb rfl) rfl) ?_
      rintro _ _ rfl
      refine jD <| jk <| jB <| jC <| jE <| jK (jX 0 (vs := [iv c.kind, str c.name, str [], iv c.a, iv 0, str c.text]) rfl rfl ku ko rfl rfl) ?_
      refine jH rfl (jT 1 (vs := [iv c.kind, str c.name, str [], iv c.a, iv 0, str c.text]) (cs' := [iv c.kind, str c.name, str [], iv c.a, iv 0, str c.text]) rfl rfl rfl rfl ko rfl rfl (lb rfl) rfl) ?_
      rintro _ _ rfl
      refine jD <| jB <| jL <| jR (.inl rfl) rfl (je (jX 1 (vs := [iv c.kind, str c.name, str [], iv c.a, iv 0, str c.text]) rfl rfl ku ko rfl rfl) ⟨_, rfl⟩) (List.nil_sublist _) ?_
      exact ⟨(⟨c.kind, c.name, [], c.a, 0, c.text⟩ : CL), ⟨by (try dsimp only); omega, by (try dsimp only); omega, by (try dsimp only); omega, (show List.length (c.name : Str) ≤ 1048576 by omega), (show List.length ([] : Str) ≤ 1048576 by decide), (show List.length (c.text : Str) ≤ 1048576 by omega)⟩, rfl, rfl⟩
    refine jP (cB (dF h_33)) <| jE <| jA (jw rfl rfl) <| jA (jG (v := .bool (decide (c.kind = 20))) rfl) <| jD <| jB ?_
    by_cases h_34 : c.kind = 20
    · refine jO (cB (dT h_34)) <| jC <| jE <| jA (jJ fo51_3 rfl) <| jK (jV 2 (v := iv c.a) rfl rfl kp rfl) <| jA (jJ fo51_3 rfl) ?_
      refine jH rfl (jT 0 (vs := [iv c.a]) (cs' := [iv c.kind, str c.name, str [], iv c.a, iv 0, str []]) rfl rfl rfl rfl kt rfl rfl (lb rfl) rfl) ?_
      rintro _ _ rfl
      refine jD <| jB <| jE <| jA (jJ fo51_5 rfl) <| jK (jV 2 (v := str c.text) rfl rfl kv rfl) <| jA (jJ fo51_5 rfl) ?_
      refine jH rfl (jT 0 (vs := [str c.text]) (cs' := [iv c.kind, str c.name, str [], iv c.a, iv 0, str c.text]) rfl rfl rfl rfl kw rfl rfl (lb rfl) rfl) ?_
      rintro _ _ rfl
      refine jD <| jk <| jB <| jC <| jE <| jK (jX 0 (vs := [iv c.kind, str c.name, str [], iv c.a, iv 0, str c.text]) rfl rfl ku ko rfl rfl) ?_
      refine jH rfl (jT 1 (vs := [iv c.kind, str c.name, str [], iv c.a, iv 0, str c.text]) (cs' := [iv c.kind, str c.name, str [], iv c.a, iv 0, str c.text]) rfl rfl rfl rfl ko rfl rfl (lb rfl) rfl) ?_
      rintro _ _ rfl
      refine jD <| jB <| jL <| jR (.inl rfl) rfl (je (jX 1 (vs := [iv c.kind, str c.name, str [], iv c.a, iv 0, str c.text]) rfl rfl ku ko rfl rfl) ⟨_, rfl⟩) (List.nil_sublist _) ?_
      exact ⟨(⟨c.kind, c.name, [], c.a, 0, c.text⟩ : CL), ⟨by (try dsimp only); omega, by (try dsimp only); omega, by (try dsimp only); omega, (show List.length (c.name : Str) ≤ 1048576 by omega), (show List.length ([] : Str) ≤ 1048576 by decide), (show List.length (c.text : Str) ≤ 1048576 by omega)⟩, rfl, rfl⟩
    refine jP (cB (dF h_34)) <| jC <| jE <| jA (jw rfl rfl) <| jA (jG (v := .bool (decide (c.kind = 22))) rfl) <| jD <| jB ?_
    by_cases h_35 : c.kind = 22
    · refine jO (cB (dT h_35)) <| jE <| jA (jJ fo51_5 rfl) <| jK (jV 2 (v := str c.text) rfl rfl kv rfl) <| jA (jJ fo51_5 rfl) ?_
      refine jH rfl (jT 0 (vs := [str c.text]) (cs' := [iv c.kind, str c.name, str [], iv 0, iv 0, str c.text]) rfl rfl rfl rfl kw rfl rfl (lb rfl) rfl) ?_
      rintro _ _ rfl
      refine jD <| jk <| jB <| jC <| jE <| jK (jX 0 (vs := [iv c.kind, str c.name, str [], iv 0, iv 0, str c.text]) rfl rfl ku ko rfl rfl) ?_
      refine jH rfl (jT 1 (vs := [iv c.kind, str c.name, str [], iv 0, iv 0, str c.text]) (cs' := [iv c.kind, str c.name, str [], iv 0, iv 0, str c.text]) rfl rfl rfl rfl ko rfl rfl (lb rfl) rfl) ?_
      rintro _ _ rfl
      refine jD <| jB <| jL <| jR (.inl rfl) rfl (je (jX 1 (vs := [iv c.kind, str c.name, str [], iv 0, iv 0, str c.text]) rfl rfl ku ko rfl rfl) ⟨_, rfl⟩) (List.nil_sublist _) ?_
      exact ⟨(⟨c.kind, c.name, [], 0, 0, c.text⟩ : CL), ⟨by (try dsimp only); omega, by (try dsimp only); omega, by (try dsimp only); omega, (show List.length (c.name : Str) ≤ 1048576 by omega), (show List.length ([] : Str) ≤ 1048576 by decide), (show List.length (c.text : Str) ≤ 1048576 by omega)⟩, rfl, rfl⟩
    refine jP (cB (dF h_35)) <| jU <| jk <| jB <| jC <| jE <| jK (jX 0 (vs := [iv c.kind, str c.name, str [], iv 0, iv 0, str []]) rfl rfl ku ko rfl rfl) ?_
    refine jH rfl (jT 1 (vs := [iv c.kind, str c.name, str [], iv 0, iv 0, str []]) (cs' := [iv c.kind, str c.name, str [], iv 0, iv 0, str []]) rfl rfl rfl rfl ko rfl rfl (lb rfl) rfl) ?_
    rintro _ _ rfl
    refine jD <| jB <| jL <| jR (.inl rfl) rfl (je (jX 1 (vs := [iv c.kind, str c.name, str [], iv 0, iv 0, str []]) rfl rfl ku ko rfl rfl) ⟨_, rfl⟩) (List.nil_sublist _) ?_
    exact ⟨(⟨c.kind, c.name, [], 0, 0, []⟩ : CL), ⟨by (try dsimp only); omega, by (try dsimp only); omega, by (try dsimp only); omega, (show List.length (c.name : Str) ≤ 1048576 by omega), (show List.length ([] : Str) ≤ 1048576 by decide), (show List.length ([] : Str) ≤ 1048576 by decide)⟩, rfl, rfl⟩
  refine jP (cB (dF h_20)) <| jC <| jE <| jA (jw rfl rfl) <| jA (jG (v := .bool (decide (c.kind = 2))) rfl) <| jD <| jB ?_
  by_cases h_36 : c.kind = 2
  · refine jO (cB (dT h_36)) <| jU <| jB <| jO (cB (dT h_36)) <| jE <| jA (jJ fo51_1 rfl) <| jK (jV 2 (v := str c.name) rfl rfl kv rfl) <| jA (jJ fo51_1 rfl) ?_
    refine jH rfl (jT 0 (vs := [str c.name]) (cs' := [iv c.kind, str c.name, str [], iv 0, iv 0, str []]) rfl rfl rfl rfl kw rfl rfl (lb rfl) rfl) ?_
    rintro _ _ rfl
    refine jD <| jk <| jB <| jC <| jC <| jE <| jA (jJ fo51_0 rfl) <| jK (jV 2 (v := iv c.kind) rfl rfl kp rfl) <| jD <| jB ?_
    refine jg <| jC <| jC <| jE <| jA (jw rfl rfl) <| jA (jG (v := .bool (decide (c.kind = 2))) rfl) <| jD <| jB <| jO (cB (dT h_36)) <| jU ?_
    refine jB <| jO (cB (dT h_36)) <| jE <| jA (jJ fo51_2 rfl) <| jK (jV 2 (v := str c.to_) rfl rfl kv rfl) <| jA (jJ fo51_2 rfl) ?_
    refine jH rfl (jT 0 (vs := [str c.to_]) (cs' := [iv c.kind, str c.name, str c.to_, iv 0, iv 0, str []]) rfl rfl rfl rfl kw rfl rfl (lb rfl) rfl) ?_
    rintro _ _ rfl
    refine jD <| jk <| jB <| jC <| jE <| jK (jX 0 (vs := [iv c.kind, str c.name, str c.to_, iv 0, iv 0, str []]) rfl rfl ku ko rfl rfl) ?_
    refine jH rfl (jT 1 (vs := [iv c.kind, str c.name, str c.to_, iv 0, iv 0, str []]) (cs' := [iv c.kind, str c.name, str c.to_, iv 0, iv 0, str []]) rfl rfl rfl rfl ko rfl rfl (lb rfl) rfl) ?_
    rintro _ _ rfl
    refine jD <| jB <| jL <| jR (.inl rfl) rfl (je (jX 1 (vs := [iv c.kind, str c.name, str c.to_, iv 0, iv 0, str []]) rfl rfl ku ko rfl rfl) ⟨_, rfl⟩) (List.nil_sublist _) ?_
    exact ⟨(⟨c.kind, c.name, c.to_, 0, 0, []⟩ : CL), ⟨by (try dsimp only); omega, by (try dsimp only); omega, by (try dsimp only); omega, (show List.length (c.name : Str) ≤ 1048576 by omega), (show List.length (c.to_ : Str) ≤ 1048576 by omega), (show List.length ([] : Str) ≤ 1048576 by decide)⟩, rfl, rfl⟩
  refine jP (cB (dF h_36)) <| jC <| jE <| jA (jw rfl rfl) <| jA (jG (v := .bool (decide (c.kind = 4))) rfl) <| jD <| jB ?_
  by_cases h_37 : c.kind = 4
  · refine jO (cB (dT h_37)) <| jU <| jB <| jO (cB (dT h_37)) <| jE <| jA (jJ fo51_1 rfl) <| jK (jV 2 (v := str c.name) rfl rfl kv rfl) <| jA (jJ fo51_1 rfl) ?_
    refine jH rfl (jT 0 (vs := [str c.name]) (cs' := [iv c.kind, str c.name, str [], iv 0, iv 0, str []]) rfl rfl rfl rfl kw rfl rfl (lb rfl) rfl) ?_
    rintro _ _ rfl
    refine jD <| jk <| jB <| jC <| jC <| jE <| jA (jJ fo51_0 rfl) <| jK (jV 2 (v := iv c.kind) rfl rfl kp rfl) <| jD <| jB ?_
    refine jg <| jC <| jC <| jE <| jA (jw rfl rfl) <| jA (jG (v := .bool (decide (c.kind = 2))) rfl) <| jD <| jB <| jP (cB (dF h_36)) <| jE ?_
    refine jA (jw rfl rfl) <| jA (jG (v := .bool (decide (c.kind = 4))) rfl) <| jD <| jB <| jO (cB (dT h_37)) <| jE <| jA (jJ fo51_2 rfl) <| jK (jV 2 (v := str c.to_) rfl rfl kv rfl) <| jA (jJ fo51_2 rfl) ?_
    refine jH rfl (jT 0 (vs := [str c.to_]) (cs' := [iv c.kind, str c.name, str c.to_, iv 0, iv 0, str []]) rfl rfl rfl rfl kw rfl rfl (lb rfl) rfl) ?_
    rintro _ _ rfl
    refine jD <| jk <| jB <| jC <| jE <| jK (jX 0 (vs := [iv c.kind, str c.name, str c.to_, iv 0, iv 0, str []]) rfl rfl ku ko rfl rfl) ?_
    refine jH rfl (jT 1 (vs := [iv c.kind, str c.name, str c.to_, iv 0, iv 0, str []]) (cs' := [iv c.kind, str c.name, str c.to_, iv 0, iv 0, str []]) rfl rfl rfl rfl ko rfl rfl (lb rfl) rfl) ?_
    rintro _ _ rfl
    refine jD <| jB <| jL <| jR (.inl rfl) rfl (je (jX 1 (vs := [iv c.kind, str c.name, str c.to_, iv 0, iv 0, str []]) rfl rfl ku ko rfl rfl) ⟨_, rfl⟩) (List.nil_sublist _) ?_
    exact ⟨(⟨c.kind, c.name, c.to_, 0, 0, []⟩ : CL), ⟨by (try dsimp only); omega, by (try dsimp only); omega, by (try dsimp only); omega, (show List.length (c.name : Str) ≤ 1048576 by omega), (show List.length (c.to_ : Str) ≤ 1048576 by omega), (show List.length ([] : Str) ≤ 1048576 by decide)⟩, rfl, rfl⟩
  refine jP (cB (dF h_37)) <| jC <| jE <| jA (jw rfl rfl) <| jA (jG (v := .bool (decide (c.kind = 6))) rfl) <| jD <| jB ?_
  by_cases h_38 : c.kind = 6
  · refine jO (cB (dT h_38)) <| jU <| jB <| jO (cB (dT h_38)) <| jE <| jA (jJ fo51_1 rfl) <| jK (jV 2 (v := str c.name) rfl rfl kv rfl) <| jA (jJ fo51_1 rfl) ?_
    refine jH rfl (jT 0 (vs := [str c.name]) (cs' := [iv c.kind, str c.name, str [], iv 0, iv 0, str []]) rfl rfl rfl rfl kw rfl rfl (lb rfl) rfl) ?_
    rintro _ _ rfl
    refine jD <| jk <| jB <| jC <| jC <| jE <| jA (jJ fo51_0 rfl) <| jK (jV 2 (v := iv c.kind) rfl rfl kp rfl) <| jD <| jB ?_
    refine jg <| jC <| jC <| jE <| jA (jw rfl rfl) <| jA (jG (v := .bool (decide (c.kind = 2))) rfl) <| jD <| jB <| jP (cB (dF h_36)) <| jE ?_
    refine jA (jw rfl rfl) <| jA (jG (v := .bool (decide (c.kind = 4))) rfl) <| jD <| jB <| jP (cB (dF h_37)) <| jC <| jC <| jE <| jA (jw rfl rfl) <| jA (jG (v := .bool (decide (c.kind = 6))) rfl) ?_
    refine jD <| jB <| jO (cB (dT h_38)) <| jU <| jB <| jO (cB (dT h_38)) <| jC <| jE <| jA (jJ fo51_3 rfl) <| jK (jV 2 (v := iv c.a) rfl rfl kp rfl) ?_
    refine jA (jJ fo51_3 rfl) ?_
    refine jH rfl (jT 0 (vs := [iv c.a]) (cs' := [iv c.kind, str c.name, str [], iv c.a, iv 0, str []]) rfl rfl rfl rfl kt rfl rfl (lb rfl) rfl) ?_
    rintro _ _ rfl
    refine jD <| jB <| jE <| jA (jJ fo51_4 rfl) <| jK (jV 2 (v := iv c.b) rfl rfl kp rfl) <| jA (jJ fo51_4 rfl) ?_
    refine jH rfl (jT 0 (vs := [iv c.b]) (cs' := [iv c.kind, str c.name, str [], iv c.a, iv c.b, str []]) rfl rfl rfl rfl kt rfl rfl (lb rfl) rfl) ?_
    rintro _ _ rfl
    refine jD <| jk <| jB <| jC <| jE <| jK (jX 0 (vs := [iv c.kind, str c.name, str [], iv c.a, iv c.b, str []]) rfl rfl ku ko rfl rfl) ?_
    refine jH rfl (jT 1 (vs := [iv c.kind, str c.name, str [], iv c.a, iv c.b, str []]) (cs' := [iv c.kind, str c.name, str [], iv c.a, iv c.b, str []]) rfl rfl rfl rfl ko rfl rfl (lb rfl) rfl) ?_
    rintro _ _ rfl
    refine jD <| jB <| jL <| jR (.inl rfl) rfl (je (jX 1 (vs := [iv c.kind, str c.name, str [], iv c.a, iv c.b, str []]) rfl rfl ku ko rfl rfl) ⟨_, rfl⟩) (List.nil_sublist _) ?_
    exact ⟨(⟨c.kind, c.name, [], c.a, c.b, []⟩ : CL), ⟨by (try dsimp only); omega, by (try dsimp only); omega, by (try dsimp only); omega, (show List.length (c.name : Str) ≤ 1048576 by omega), (show List.length ([] : Str) ≤ 1048576 by decide), (show List.length ([] : Str) ≤ 1048576 by decide)⟩, rfl, rfl⟩
  refine jP (cB (dF h_38)) <| jC <| jE <| jA (jw rfl rfl) <| jA (jG (v := .bool (decide (c.kind = 7))) rfl) <| jD <| jB ?_
  by_cases h_39 : c.kind = 7
  · refine jO (cB (dT h_39)) <| jU <| jB <| jO (cB (dT h_39)) <| jE <| jA (jJ fo51_1 rfl) <| jK (jV 2 (v := str c.name) rfl rfl kv rfl) <| jA (jJ fo51_1 rfl) ?_
    refine jH rfl (jT 0 (vs := [str c.name]) (cs' := [iv c.kind, str c.name, str [], iv 0, iv 0, str []]) rfl rfl rfl rfl kw rfl rfl (lb rfl) rfl) ?_
    rintro _ _ rfl
    refine jD <| jk <| jB <| jC <| jC <| jE <| jA (jJ fo51_0 rfl) <| jK (jV 2 (v := iv c.kind) rfl rfl kp rfl) <| jD <| jB ?_
    refine jg <| jC <| jC <| jE <| jA (jw rfl rfl) <| jA (jG (v := .bool (decide (c.kind = 2))) rfl) <| jD <| jB <| jP (cB (dF h_36)) <| jE ?_
    refine jA (jw rfl rfl) <| jA (jG (v := .bool (decide (c.kind = 4))) rfl) <| jD <| jB <| jP (cB (dF h_37)) <| jC <| jC <| jE <| jA (jw rfl rfl) <| jA (jG (v := .bool (decide (c.kind = 6))) rfl) ?_
    refine jD <| jB <| jP (cB (dF h_38)) <| jE <| jA (jw rfl rfl) <| jA (jG (v := .bool (decide (c.kind = 16))) rfl) <| jD <| jB ?_
    by_cases h_40 : c.kind = 16
    · refine jO (cB (dT h_40)) <| jC <| jE <| jA (jJ fo51_3 rfl) <| jK (jV 2 (v := iv c.a) rfl rfl kp rfl) <| jA (jJ fo51_3 rfl) ?_
      refine jH rfl (jT 0 (vs := [iv c.a]) (cs' := [iv c.kind, str c.name, str [], iv c.a, iv 0, str []]) rfl rfl rfl rfl kt rfl rfl (lb rfl) rfl) ?_
      rintro _ _ rfl
      refine jD <| jB <| jE <| jA (jJ fo51_4 rfl) <| jK (jV 2 (v := iv c.b) rfl rfl kp rfl) <| jA (jJ fo51_4 rfl) ?_
      refine jH rfl (jT 0 (vs := [iv c.b]) (cs' := [iv c.kind, str c.name, str [], iv c.a, iv c.b, str []]) rfl rfl rfl rfl kt rfl rfl (lb rfl) rfl) ?_
      rintro _ _ rfl
      refine jD <| jk <| jB <| jC <| jE <| jK (jX 0 (vs := [iv c.kind, str c.name, str [], iv c.a, iv c.b, str []]) rfl rfl ku ko rfl rfl) ?_
      refine jH rfl (jT 1 (vs := [iv c.kind, str c.name, str [], iv c.a, iv c.b, str []]) (cs' := [iv c.kind, str c.name, str [], iv c.a, iv c.b, str []]) rfl rfl rfl rfl ko rfl rfl (lb rfl) rfl) ?_
      rintro _ _ rfl
      refine jD <| jB <| jL <| jR (.inl rfl) rfl (je (jX 1 (vs := [iv c.kind, str c.name, str [], iv c.a, iv c.b, str []]) rfl rfl ku ko rfl rfl) ⟨_, rfl⟩) (List.nil_sublist _) ?_
      exact ⟨(⟨c.kind, c.name, [], c.a, c.b, []⟩ : CL), ⟨by (try dsimp only); omega, by (try dsimp only); omega, by (try dsimp only); omega, (show List.length (c.name : Str) ≤ 1048576 by omega), (show List.length ([] : Str) ≤ 1048576 by decide), (show List.length ([] : Str) ≤ 1048576 by decide)⟩, rfl, rfl⟩
    refine jP (cB (dF h_40)) <| jC <| jC <| jE <| jA (jw rfl rfl) <| jA (jG (v := .bool (decide (c.kind = 8))) rfl) <| jD <| jB ?_
    by_cases h_41 : c.kind = 8
    · refine jO (cB (dT h_41)) <| jU <| jB <| jO (cB (dT h_41)) <| jE <| jA (jJ fo51_3 rfl) <| jK (jV 2 (v := iv c.a) rfl rfl kp rfl) <| jA (jJ fo51_3 rfl) ?_
      refine jH rfl (jT 0 (vs := [iv c.a]) (cs' := [iv c.kind, str c.name, str [], iv c.a, iv 0, str []]) rfl rfl rfl rfl kt rfl rfl (lb rfl) rfl) ?_
      rintro _ _ rfl
      refine jD <| jk <| jB <| jC <| jE <| jK (jX 0 (vs := [iv c.kind, str c.name, str [], iv c.a, iv 0, str []]) rfl rfl ku ko rfl rfl) ?_
      refine jH rfl (jT 1 (vs := [iv c.kind, str c.name, str [], iv c.a, iv 0, str []]) (cs' := [iv c.kind, str c.name, str [], iv c.a, iv 0, str []]) rfl rfl rfl rfl ko rfl rfl (lb rfl) rfl) ?_
      rintro _ _ rfl
      refine jD <| jB <| jL <| jR (.inl rfl) rfl (je (jX 1 (vs := [iv c.kind, str c.name, str [], iv c.a, iv 0, str []]) rfl rfl ku ko rfl rfl) ⟨_, rfl⟩) (List.nil_sublist _) ?_
      exact ⟨(⟨c.kind, c.name, [], c.a, 0, []⟩ : CL), ⟨by (try dsimp only); omega, by (try dsimp only); omega, by (try dsimp only); omega, (show List.length (c.name : Str) ≤ 1048576 by omega), (show List.length ([] : Str) ≤ 1048576 by decide), (show List.length ([] : Str) ≤ 1048576 by decide)⟩, rfl, rfl⟩
    refine jP (cB (dF h_41)) <| jC <| jE <| jA (jw rfl rfl) <| jA (jG (v := .bool (decide (c.kind = 11))) rfl) <| jD <| jB ?_
    by_cases h_42 : c.kind = 11
    · refine jO (cB (dT h_42)) <| jU <| jB <| jO (cB (dT h_42)) <| jE <| jA (jJ fo51_3 rfl) <| jK (jV 2 (v := iv c.a) rfl rfl kp rfl) <| jA (jJ fo51_3 rfl) ?_
      refine jH rfl (jT 0 (vs := [iv c.a]) (cs' := [iv c.kind, str c.name, str [], iv c.a, iv 0, str []]) rfl rfl rfl rfl kt rfl rfl (lb rfl) rfl) ?_
      rintro _ _ rfl
      refine jD <| jk <| jB <| jC <| jE <| jK (jX 0 (vs := [iv c.kind, str c.name, str [], iv c.a, iv 0, str []]) rfl rfl ku ko rfl rfl) ?_
      refine jH rfl (jT 1 (vs := [iv c.kind, str c.name, str [], iv c.a, iv 0, str []]) (cs' := [iv c.kind, str c.name, str [], iv c.a, iv 0, str []]) rfl rfl rfl rfl ko rfl rfl (lb rfl) rfl) ?_
      rintro _ _ rfl
      refine jD <| jB <| jL <| jR (.inl rfl) rfl (je (jX 1 (vs := [iv c.kind, str c.name, str [], iv c.a, iv 0, str []]) rfl rfl ku ko rfl rfl) ⟨_, rfl⟩) (List.nil_sublist _) ?_
      exact ⟨(⟨c.kind, c.name, [], c.a, 0, []⟩ : CL), ⟨by (try dsimp only); omega, by (try dsimp only); omega, by (try dsimp only); omega, (show List.length (c.name : Str) ≤ 1048576 by omega), (show List.length ([] : Str) ≤ 1048576 by decide), (show List.length ([] : Str) ≤ 1048576 by decide)⟩, rfl, rfl⟩
    refine jP (cB (dF h_42)) <| jC <| jE <| jA (jw rfl rfl) <| jA (jG (v := .bool (decide (c.kind = 13))) rfl) <| jD <| jB ?_
    by_cases h_43 : c.kind = 13
    · refine jO (cB (dT h_43)) <| jU <| jB <| jO (cB (dT h_43)) <| jE <| jA (jJ fo51_3 rfl) <| jK (jV 2 (v := iv c.a) rfl rfl kp rfl) <| jA (jJ fo51_3 rfl) ?_
      refine jH rfl (jT 0 (vs := [iv c.a]) (cs' := [iv c.kind, str c.name, str [], iv c.a, iv 0, str []]) rfl rfl rfl rfl kt rfl rfl (lb rfl) rfl) ?_
      rintro _ _ rfl
      refine jD <| jk <| jB <| jC <| jE <| jK (jX 0 (vs := [iv c.kind, str c.name, str [], iv c.a, iv 0, str []]) rfl rfl ku ko rfl rfl) ?_
      refine jH rfl (jT 1 (vs := [iv c.kind, str c.name, str [], iv c.a, iv 0, str []]) (cs' := [iv c.kind, str c.name, str [], iv c.a, iv 0, str []]) rfl rfl rfl rfl ko rfl rfl (lb rfl) rfl) ?_
      rintro _ _ rfl
      refine jD <| jB <| jL <| jR (.inl rfl) rfl (je (jX 1 (vs := [iv c.kind, str c.name, str [], iv c.a, iv 0, str []]) rfl rfl ku ko rfl rfl) ⟨_, rfl⟩) (List.nil_sublist _) ?_
      exact ⟨(⟨c.kind, c.name, [], c.a, 0, []⟩ : CL), ⟨by (try dsimp only); omega, by (try dsimp only); omega, by (try dsimp only); omega, (show List.length (c.name : Str) ≤ 1048576 by omega), (show List.length ([] : Str) ≤ 1048576 by decide), (show List.length ([] : Str) ≤ 1048576 by decide)⟩, rfl, rfl⟩
    refine jP (cB (dF h_43)) <| jC <| jE <| jA (jw rfl rfl) <| jA (jG (v := .bool (decide (c.kind = 14))) rfl) <| jD <| jB ?_
    by_cases h_44 : c.kind = 14
    · refine jO (cB (dT h_44)) <| jU <| jB <| jO (cB (dT h_44)) <| jE <| jA (jJ fo51_3 rfl) <| jK (jV 2 (v := iv c.a) rfl rfl kp rfl) <| jA (jJ fo51_3 rfl) ?_
      refine jH rfl (jT 0 (vs := [iv c.a]) (cs' := [iv c.kind, str c.name, str [], iv c.a, iv 0, str []]) rfl rfl rfl rfl kt rfl rfl (lb rfl) rfl) ?_
      rintro _ _ rfl
      refine jD <| jk <| jB <| jC <| jE <| jK (jX 0 (vs := [iv c.kind, str c.name, str [], iv c.a, iv 0, str []]) rfl rfl ku ko rfl rfl) ?_
      refine jH rfl (jT 1 (vs := [iv c.kind, str c.name, str [], iv c.a, iv 0, str []]) (cs' := [iv c.kind, str c.name, str [], iv c.a, iv 0, str []]) rfl rfl rfl rfl ko rfl rfl (lb rfl) rfl) ?_
      rintro _ _ rfl
      refine jD <| jB <| jL <| jR (.inl rfl) rfl (je (jX 1 (vs := [iv c.kind, str c.name, str [], iv c.a, iv 0, str []]) rfl rfl ku ko rfl rfl) ⟨_, rfl⟩) (List.nil_sublist _) ?_
      exact ⟨(⟨c.kind, c.name, [], c.a, 0, []⟩ : CL), ⟨by (try dsimp only); omega, by (try dsimp only); omega, by (try dsimp only); omega, (show List.length (c.name : Str) ≤ 1048576 by omega), (show List.length ([] : Str) ≤ 1048576 by decide), (show List.length ([] : Str) ≤ 1048576 by decide)⟩, rfl, rfl⟩
    refine jP (cB (dF h_44)) <| jC <| jE <| jA (jw rfl rfl) <| jA (jG (v := .bool (decide (c.kind = 18))) rfl) <| jD <| jB ?_
    by_cases h_45 : c.kind = 18
    · refine jO (cB (dT h_45)) <| jU <| jB <| jO (cB (dT h_45)) <| jE <| jA (jJ fo51_3 rfl) <| jK (jV 2 (v := iv c.a) rfl rfl kp rfl) <| jA (jJ fo51_3 rfl) ?_
      refine jH rfl (jT 0 (vs := [iv c.a]) (cs' := [iv c.kind, str c.name, str [], iv c.a, iv 0, str []]) rfl rfl rfl rfl kt rfl rfl (lb rfl) rfl) ?_
      rintro _ _ rfl
      refine jD <| jk <| jB <| jC <| jE <| jK (jX 0 (vs := [iv c.kind, str c.name, str [], iv c.a, iv 0, str []]) rfl rfl ku ko rfl rfl) ?_
      refine jH rfl (jT 1 (vs := [iv c.kind, str c.name, str [], iv c.a, iv 0, str []]) (cs' := [iv c.kind, str c.name, str [], iv c.a, iv 0, str []]) rfl rfl rfl rfl ko rfl rfl (lb rfl) rfl) ?_
      rintro _ _ rfl
      refine jD <| jB <| jL <| jR (.inl rfl) rfl (je (jX 1 (vs := [iv c.kind, str c.name, str [], iv c.a, iv 0, str []]) rfl rfl ku ko rfl rfl) ⟨_, rfl⟩) (List.nil_sublist _) ?_
      exact ⟨(⟨c.kind, c.name, [], c.a, 0, []⟩ : CL), ⟨by (try dsimp only); omega, by (try dsimp only); omega, by (try dsimp only); omega, (show List.length (c.name : Str) ≤ 1048576 by omega), (show List.length ([] : Str) ≤ 1048576 by decide), (show List.length ([] : Str) ≤ 1048576 by decide)⟩, rfl, rfl⟩
    refine jP (cB (dF h_45)) <| jC <| jE <| jA (jw rfl rfl) <| jA (jG (v := .bool (decide (c.kind = 19))) rfl) <| jD <| jB ?_
    by_cases h_46 : c.kind = 19
    · refine jO (cB (dT h_46)) <| jU <| jB <| jO (cB (dT h_46)) <| jE <| jA (jJ fo51_3 rfl) <| jK (jV 2 (v := iv c.a) rfl rfl kp rfl) <| jA (jJ fo51_3 rfl) ?_
      refine jH rfl (jT 0 (vs := [iv c.a]) (cs' := [iv c.kind, str c.name, str [], iv c.a, iv 0, str []]) rfl rfl rfl rfl kt rfl rfl (lb rfl) rfl) ?_
      rintro _ _ rfl
      refine jD <| jk <| jB <| jC <| jE <| jK (jX 0 (vs := [iv c.kind, str c.name, str [], iv c.a, iv 0, str []]) rfl rfl ku ko rfl rfl) ?_
      refine jH rfl (jT 1 (vs := [iv c.kind, str c.name, str [], iv c.a, iv 0, str []]) (cs' := [iv c.kind, str c.name, str [], iv c.a, iv 0, str []]) rfl rfl rfl rfl ko rfl rfl (lb rfl) rfl) ?_
      rintro _ _ rfl
      refine jD <| jB <| jL <| jR (.inl rfl) rfl (je (jX 1 (vs := [iv c.kind, str c.name, str [], iv c.a, iv 0, str []]) rfl rfl ku ko rfl rfl) ⟨_, rfl⟩) (List.nil_sublist _) ?_
      exact ⟨(⟨c.kind, c.name, [], c.a, 0, []⟩ : CL), ⟨by (try dsimp only); omega, by (try dsimp only); omega, by (try dsimp only); omega, (show List.length (c.name : Str) ≤ 1048576 by omega), (show List.length ([] : Str) ≤ 1048576 by decide), (show List.length ([] : Str) ≤ 1048576 by decide)⟩, rfl, rfl⟩
    refine jP (cB (dF h_46)) <| jE <| jA (jw rfl rfl) <| jA (jG (v := .bool (decide (c.kind = 21))) rfl) <| jD <| jB ?_
    by_cases h_47 : c.kind = 21
    · refine jO (cB (dT h_47)) <| jE <| jA (jJ fo51_3 rfl) <| jK (jV 2 (v := iv c.a) rfl rfl kp rfl) <| jA (jJ fo51_3 rfl) ?_
      refine jH rfl (jT 0 (vs := [iv c.a]) (cs' := [iv c.kind, str c.name, str [], iv c.a, iv 0, str []]) rfl rfl rfl rfl kt rfl rfl (lb rfl) rfl) ?_
      rintro _ _ rfl
      refine jD <| jk <| jB <| jC <| jE <| jK (jX 0 (vs := [iv c.kind, str c.name, str [], iv c.a, iv 0, str []]) rfl rfl ku ko rfl rfl) ?_
      refine jH rfl (jT 1 (vs := [iv c.kind, str c.name, str [], iv c.a, iv 0, str []]) (cs' := [iv c.kind, str c.name, str [], iv c.a, iv 0, str []]) rfl rfl rfl rfl ko rfl rfl (lb rfl) rfl) ?_
      rintro _ _ rfl
      refine jD <| jB <| jL <| jR (.inl rfl) rfl (je (jX 1 (vs := [iv c.kind, str c.name, str [], iv c.a, iv 0, str []]) rfl rfl ku ko rfl rfl) ⟨_, rfl⟩) (List.nil_sublist _) ?_
      exact ⟨(⟨c.kind, c.name, [], c.a, 0, []⟩ : CL), ⟨by (try dsimp only); omega, by (try dsimp only); omega, by (try dsimp only); omega, (show List.length (c.name : Str) ≤ 1048576 by omega), (show List.length ([] : Str) ≤ 1048576 by decide), (show List.length ([] : Str) ≤ 1048576 by decide)⟩, rfl, rfl⟩
    refine jP (cB (dF h_47)) <| jC <| jC <| jE <| jA (jw rfl rfl) <| jA (jG (v := .bool (decide (c.kind = 7))) rfl) <| jD <| jB <| jO (cB (dT h_39)) <| jU ?_
    refine jB <| jO (cB (dT h_39)) <| jC <| jE <| jA (jJ fo51_3 rfl) <| jK (jV 2 (v := iv c.a) rfl rfl kp rfl) <| jA (jJ fo51_3 rfl) ?_
    refine jH rfl (jT 0 (vs := [iv c.a]) (cs' := [iv c.kind, str c.name, str [], iv c.a, iv 0, str []]) rfl rfl rfl rfl kt rfl rfl (lb rfl) rfl) ?_
    rintro _ _ rfl
    refine jD <| jB <| jE <| jA (jJ fo51_5 rfl) <| jK (jV 2 (v := str c.text) rfl rfl kv rfl) <| jA (jJ fo51_5 rfl) ?_
    refine jH rfl (jT 0 (vs := [str c.text]) (cs' := [iv c.kind, str c.name, str [], iv c.a, iv 0, str c.text]) rfl rfl rfl rfl kw rfl rfl (lb rfl) rfl) ?_
    rintro _ _ rfl
    refine jD <| jk <| jB <| jC <| jE <| jK (jX 0 (vs := [iv c.kind, str c.name, str [], iv c.a, iv 0, str c.text]) rfl rfl ku ko rfl rfl) ?_
    refine jH rfl (jT 1 (vs := [iv c.kind, str c.name, str [], iv c.a, iv 0, str c.text]) (cs' := [iv c.kind, str c.name, str [], iv c.a, iv 0, str c.text]) rfl rfl rfl rfl ko rfl rfl (lb rfl) rfl) ?_
    rintro _ _ rfl
    refine jD <| jB <| jL <| jR (.inl rfl) rfl (je (jX 1 (vs := [iv c.kind, str c.name, str [], iv c.a, iv 0, str c.text]) rfl rfl ku ko rfl rfl) ⟨_, rfl⟩) (List.nil_sublist _) ?_
    exact ⟨(⟨c.kind, c.name, [], c.a, 0, c.text⟩ : CL), ⟨by (try dsimp only); omega, by (try dsimp only); omega, by (try dsimp only); omega, (show List.length (c.name : Str) ≤ 1048576 by omega), (show List.length ([] : Str) ≤ 1048576 by decide), (show List.length (c.text : Str) ≤ 1048576 by omega)⟩, rfl, rfl⟩
  refine jP (cB (dF h_39)) <| jE <| jA (jw rfl rfl) <| jA (jG (v := .bool (decide (c.kind = 8))) rfl) <| jD <| jB ?_
  by_cases h_48 : c.kind = 8
  · refine jO (cB (dT h_48)) <| jE <| jA (jJ fo51_1 rfl) <| jK (jV 2 (v := str c.name) rfl rfl kv rfl) <| jA (jJ fo51_1 rfl) ?_
    refine jH rfl (jT 0 (vs := [str c.name]) (cs' := [iv c.kind, str c.name, str [], iv 0, iv 0, str []]) rfl rfl rfl rfl kw rfl rfl (lb rfl) rfl) ?_
    rintro _ _ rfl
    refine jD <| jk <| jB <| jC <| jC <| jE <| jA (jJ fo51_0 rfl) <| jK (jV 2 (v := iv c.kind) rfl rfl kp rfl) <| jD <| jB ?_
    refine jg <| jC <| jC <| jE <| jA (jw rfl rfl) <| jA (jG (v := .bool (decide (c.kind = 2))) rfl) <| jD <| jB <| jP (cB (dF h_36)) <| jE ?_
    refine jA (jw rfl rfl) <| jA (jG (v := .bool (decide (c.kind = 4))) rfl) <| jD <| jB <| jP (cB (dF h_37)) <| jC <| jC <| jE <| jA (jw rfl rfl) <| jA (jG (v := .bool (decide (c.kind = 6))) rfl) ?_
    refine jD <| jB <| jP (cB (dF h_38)) <| jE <| jA (jw rfl rfl) <| jA (jG (v := .bool (decide (c.kind = 16))) rfl) <| jD <| jB ?_
    by_cases h_49 : c.kind = 16
    · refine jO (cB (dT h_49)) <| jC <| jE <| jA (jJ fo51_3 rfl) <| jK (jV 2 (v := iv c.a) rfl rfl kp rfl) <| jA (jJ fo51_3 rfl) ?_
      refine jH rfl (jT 0 (vs := [iv c.a]) (cs' := [iv c.kind, str c.name, str [], iv c.a, iv 0, str []]) rfl rfl rfl rfl kt rfl rfl (lb rfl) rfl) ?_
      rintro _ _ rfl
      refine jD <| jB <| jE <| jA (jJ fo51_4 rfl) <| jK (jV 2 (v := iv c.b) rfl rfl kp rfl) <| jA (jJ fo51_4 rfl) ?_
      refine jH rfl (jT 0 (vs := [iv c.b]) (cs' := [iv c.kind, str c.name, str [], iv c.a, iv c.b, str []]) rfl rfl rfl rfl kt rfl rfl (lb rfl) rfl) ?_
      rintro _ _ rfl
      refine jD <| jk <| jB <| jC <| jE <| jK (jX 0 (vs := [iv c.kind, str c.name, str [], iv c.a, iv c.b, str []]) rfl rfl ku ko rfl rfl) ?_
      refine jH rfl (jT 1 (vs := [iv c.kind, str c.name, str [], iv c.a, iv c.b, str []]) (cs' := [iv c.kind, str c.name, str [], iv c.a, iv c.b, str []]) rfl rfl rfl rfl ko rfl rfl (lb rfl) rfl) ?_
      rintro _ _ rfl
      refine jD <| jB <| jL <| jR (.inl rfl) rfl (je (jX 1 (vs := [iv c.kind, str c.name, str [], iv c.a, iv c.b, str []]) rfl rfl ku ko rfl rfl) ⟨_, rfl⟩) (List.nil_sublist _) ?_
      exact ⟨(⟨c.kind, c.name, [], c.a, c.b, []⟩ : CL), ⟨by (try dsimp only); omega, by (try dsimp only); omega, by (try dsimp only); omega, (show List.length (c.name : Str) ≤ 1048576 by omega), (show List.length ([] : Str) ≤ 1048576 by decide), (show List.length ([] : Str) ≤ 1048576 by decide)⟩, rfl, rfl⟩
    refine jP (cB (dF h_49)) <| jC <| jC <| jE <| jA (jw rfl rfl) <| jA (jG (v := .bool (decide (c.kind = 8))) rfl) <| jD <| jB <| jO (cB (dT h_48)) <| jU ?_
    refine jB <| jO (cB (dT h_48)) <| jE <| jA (jJ fo51_3 rfl) <| jK (jV 2 (v := iv c.a) rfl rfl kp rfl) <| jA (jJ fo51_3 rfl) ?_
    refine jH rfl (jT 0 (vs := [iv c.a]) (cs' := [iv c.kind, str c.name, str [], iv c.a, iv 0, str []]) rfl rfl rfl rfl kt rfl rfl (lb rfl) rfl) ?_
    rintro _ _ rfl
    refine jD <| jk <| jB <| jC <| jE <| jK (jX 0 (vs := [iv c.kind, str c.name, str [], iv c.a, iv 0, str []]) rfl rfl ku ko rfl rfl) ?_
    refine jH rfl (jT 1 (vs := [iv c.kind, str c.name, str [], iv c.a, iv 0, str []]) (cs' := [iv c.kind, str c.name, str [], iv c.a, iv 0, str []]) rfl rfl rfl rfl ko rfl rfl (lb rfl) rfl) ?_
    rintro _ _ rfl
    refine jD <| jB <| jL <| jR (.inl rfl) rfl (je (jX 1 (vs := [iv c.kind, str c.name, str [], iv c.a, iv 0, str []]) rfl rfl ku ko rfl rfl) ⟨_, rfl⟩) (List.nil_sublist _) ?_
    exact ⟨(⟨c.kind, c.name, [], c.a, 0, []⟩ : CL), ⟨by (try dsimp only); omega, by (try dsimp only); omega, by (try dsimp only); omega, (show List.length (c.name : Str) ≤ 1048576 by omega), (show List.length ([] : Str) ≤ 1048576 by decide), (show List.length ([] : Str) ≤ 1048576 by decide)⟩, rfl, rfl⟩
  refine jP (cB (dF h_48)) <| jU <| jk <| jB <| jC <| jC <| jE <| jA (jJ fo51_0 rfl) <| jK (jV 2 (v := iv c.kind) rfl rfl kp rfl) <| jD ?_
  refine jB <| jg <| jC <| jC <| jE <| jA (jw rfl rfl) <| jA (jG (v := .bool (decide (c.kind = 2))) rfl) <| jD <| jB <| jP (cB (dF h_36)) ?_
  refine jE <| jA (jw rfl rfl) <| jA (jG (v := .bool (decide (c.kind = 4))) rfl) <| jD <| jB <| jP (cB (dF h_37)) <| jC <| jC <| jE <| jA (jw rfl rfl) ?_
  refine jA (jG (v := .bool (decide (c.kind = 6))) rfl) <| jD <| jB <| jP (cB (dF h_38)) <| jE <| jA (jw rfl rfl) <| jA (jG (v := .bool (decide (c.kind = 16))) rfl) <| jD <| jB ?_
  by_cases h_50 : c.kind = 16
  · refine jO (cB (dT h_50)) <| jC <| jE <| jA (jJ fo51_3 rfl) <| jK (jV 2 (v := iv c.a) rfl rfl kp rfl) <| jA (jJ fo51_3 rfl) ?_
    refine jH rfl (jT 0 (vs := [iv c.a]) (cs' := [iv c.kind, str [], str [], iv c.a, iv 0, str []]) rfl rfl rfl rfl kt rfl rfl (lb rfl) rfl) ?_
    rintro _ _ rfl
    refine jD <| jB <| jE <| jA (jJ fo51_4 rfl) <| jK (jV 2 (v := iv c.b) rfl rfl kp rfl) <| jA (jJ fo51_4 rfl) ?_
    refine jH rfl (jT 0 (vs := [iv c.b]) (cs' := [iv c.kind, str [], str [], iv c.a, iv c.b, str []]) rfl rfl rfl rfl kt rfl rfl (lb rfl) rfl) ?_
    rintro _ _ rfl
    refine jD <| jk <| jB <| jC <| jE <| jK (jX 0 (vs := [iv c.kind, str [], str [], iv c.a, iv c.b, str []]) rfl rfl ku ko rfl rfl) ?_
    refine jH rfl (jT 1 (vs := [iv c.kind, str [], str [], iv c.a, iv c.b, str []]) (cs' := [iv c.kind, str [], str [], iv c.a, iv c.b, str []]) rfl rfl rfl rfl ko rfl rfl (lb rfl) rfl) ?_
    rintro _ _ rfl
    refine jD <| jB <| jL <| jR (.inl rfl) rfl (je (jX 1 (vs := [iv c.kind, str [], str [], iv c.a, iv c.b, str []]) rfl rfl ku ko rfl rfl) ⟨_, rfl⟩) (List.nil_sublist _) ?_
    exact ⟨(⟨c.kind, [], [], c.a, c.b, []⟩ : CL), ⟨by (try dsimp only); omega, by (try dsimp only); omega, by (try dsimp only); omega, (show List.length ([] : Str) ≤ 1048576 by decide), (show List.length ([] : Str) ≤ 1048576 by decide), (show List.length ([] : Str) ≤ 1048576 by decide)⟩, rfl, rfl⟩
  refine jP (cB (dF h_50)) <| jC <| jC <| jE <| jA (jw rfl rfl) <| jA (jG (v := .bool (decide (c.kind = 8))) rfl) <| jD <| jB <| jP (cB (dF h_48)) <| jC ?_
  refine jE <| jA (jw rfl rfl) <| jA (jG (v := .bool (decide (c.kind = 11))) rfl) <| jD <| jB ?_
  by_cases h_51 : c.kind = 11
  · refine jO (cB (dT h_51)) <| jU <| jB <| jO (cB (dT h_51)) <| jE <| jA (jJ fo51_3 rfl) <| jK (jV 2 (v := iv c.a) rfl rfl kp rfl) <| jA (jJ fo51_3 rfl) ?_
    refine jH rfl (jT 0 (vs := [iv c.a]) (cs' := [iv c.kind, str [], str [], iv c.a, iv 0, str []]) rfl rfl rfl rfl kt rfl rfl (lb rfl) rfl) ?_
    rintro _ _ rfl
    refine jD <| jk <| jB <| jC <| jE <| jK (jX 0 (vs := [iv c.kind, str [], str [], iv c.a, iv 0, str []]) rfl rfl ku ko rfl rfl) ?_
    refine jH rfl (jT 1 (vs := [iv c.kind, str [], str [], iv c.a, iv 0, str []]) (cs' := [iv c.kind, str [], str [], iv c.a, iv 0, str []]) rfl rfl rfl rfl ko rfl rfl (lb rfl) rfl) ?_
    rintro _ _ rfl
    refine jD <| jB <| jL <| jR (.inl rfl) rfl (je (jX 1 (vs := [iv c.kind, str [], str [], iv c.a, iv 0, str []]) rfl rfl ku ko rfl rfl) ⟨_, rfl⟩) (List.nil_sublist _) ?_
    exact ⟨(⟨c.kind, [], [], c.a, 0, []⟩ : CL), ⟨by (try dsimp only); omega, by (try dsimp only); omega, by (try dsimp only); omega, (show List.length ([] : Str) ≤ 1048576 by decide), (show List.length ([] : Str) ≤ 1048576 by decide), (show List.length ([] : Str) ≤ 1048576 by decide)⟩, rfl, rfl⟩
  refine jP (cB (dF h_51)) <| jC <| jE <| jA (jw rfl rfl) <| jA (jG (v := .bool (decide (c.kind = 13))) rfl) <| jD <| jB ?_
  by_cases h_52 : c.kind = 13
  · refine jO (cB (dT h_52)) <| jU <| jB <| jO (cB (dT h_52)) <| jE <| jA (jJ fo51_3 rfl) <| jK (jV 2 (v := iv c.a) rfl rfl kp rfl) <| jA (jJ fo51_3 rfl) ?_
    refine jH rfl (jT 0 (vs := [iv c.a]) (cs' := [iv c.kind, str [], str [], iv c.a, iv 0, str []]) rfl rfl rfl rfl kt rfl rfl (lb rfl) rfl) ?_
    rintro _ _ rfl
    refine jD <| jk <| jB <| jC <| jE <| jK (jX 0 (vs := [iv c.kind, str [], str [], iv c.a, iv 0, str []]) rfl rfl ku ko rfl rfl) ?_
    refine jH rfl (jT 1 (vs := [iv c.kind, str [], str [], iv c.a, iv 0, str []]) (cs' := [iv c.kind, str [], str [], iv c.a, iv 0, str []]) rfl rfl rfl rfl ko rfl rfl (lb rfl) rfl) ?_
    rintro _ _ rfl
    refine jD <| jB <| jL <| jR (.inl rfl) rfl (je (jX 1 (vs := [iv c.kind, str [], str [], iv c.a, iv 0, str []]) rfl rfl ku ko rfl rfl) ⟨_, rfl⟩) (List.nil_sublist _) ?_
    exact ⟨(⟨c.kind, [], [], c.a, 0, []⟩ : CL), ⟨by (try dsimp only); omega, by (try dsimp only); omega, by (try dsimp only); omega, (show List.length ([] : Str) ≤ 1048576 by decide), (show List.length ([] : Str) ≤ 1048576 by decide), (show List.length ([] : Str) ≤ 1048576 by decide)⟩, rfl, rfl⟩
  refine jP (cB (dF h_52)) <| jC <| jE <| jA (jw rfl rfl) <| jA (jG (v := .bool (decide (c.kind = 14))) rfl) <| jD <| jB ?_
  by_cases h_53 : c.kind = 14
  · refine jO (cB (dT h_53)) <| jU <| jB <| jO (cB (dT h_53)) <| jE <| jA (jJ fo51_3 rfl) <| jK (jV 2 (v := iv c.a) rfl rfl kp rfl) <| jA (jJ fo51_3 rfl) ?_
    refine jH rfl (jT 0 (vs := [iv c.a]) (cs' := [iv c.kind, str [], str [], iv c.a, iv 0, str []]) rfl rfl rfl rfl kt rfl rfl (lb rfl) rfl) ?_
    rintro _ _ rfl
    refine jD <| jk <| jB <| jC <| jE <| jK (jX 0 (vs := [iv c.kind, str [], str [], iv c.a, iv 0, str []]) rfl rfl ku ko rfl rfl) ?_
    refine jH rfl (jT 1 (vs := [iv c.kind, str [], str [], iv c.a, iv 0, str []]) (cs' := [iv c.kind, str [], str [], iv c.a, iv 0, str []]) rfl rfl rfl rfl ko rfl rfl (lb rfl) rfl) ?_
    rintro _ _ rfl
    refine jD <| jB <| jL <| jR (.inl rfl) rfl (je (jX 1 (vs := [iv c.kind, str [], str [], iv c.a, iv 0, str []]) rfl rfl ku ko rfl rfl) ⟨_, rfl⟩) (List.nil_sublist _) ?_
    exact ⟨(⟨c.kind, [], [], c.a, 0, []⟩ : CL), ⟨by (try dsimp only); omega, by (try dsimp only); omega, by (try dsimp only); omega, (show List.length ([] : Str) ≤ 1048576 by decide), (show List.length ([] : Str) ≤ 1048576 by decide), (show List.length ([] : Str) ≤ 1048576 by decide)⟩, rfl, rfl⟩
  refine jP (cB (dF h_53)) <| jC <| jE <| jA (jw rfl rfl) <| jA (jG (v := .bool (decide (c.kind = 18))) rfl) <| jD <| jB ?_
  by_cases h_54 : c.kind = 18
  · refine jO (cB (dT h_54)) <| jU <| jB <| jO (cB (dT h_54)) <| jE <| jA (jJ fo51_3 rfl) <| jK (jV 2 (v := iv c.a) rfl rfl kp rfl) <| jA (jJ fo51_3 rfl) ?_
    refine jH rfl (jT 0 (vs := [iv c.a]) (cs' := [iv c.kind, str [], str [], iv c.a, iv 0, str []]) rfl rfl rfl rfl kt rfl rfl (lb rfl) rfl) ?_
    rintro _ _ rfl
    refine jD <| jk <| jB <| jC <| jE <| jK (jX 0 (vs := [iv c.kind, str [], str [], iv c.a, iv 0, str []]) rfl rfl ku ko rfl rfl) ?_
    refine jH rfl (jT 1 (vs := [iv c.kind, str [], str [], iv c.a, iv 0, str []]) (cs' := [iv c.kind, str [], str [], iv c.a, iv 0, str []]) rfl rfl rfl rfl ko rfl rfl (lb rfl) rfl) ?_
    rintro _ _ rfl
    refine jD <| jB <| jL <| jR (.inl rfl) rfl (je (jX 1 (vs := [iv c.kind, str [], str [], iv c.a, iv 0, str []]) rfl rfl ku ko rfl rfl) ⟨_, rfl⟩) (List.nil_sublist _) ?_
    exact ⟨(⟨c.kind, [], [], c.a, 0, []⟩ : CL), ⟨by (try dsimp only); omega, by (try dsimp only); omega, by (try dsimp only); omega, (show List.length ([] : Str) ≤ 1048576 by decide), (show List.length ([] : Str) ≤ 1048576 by decide), (show List.length ([] : Str) ≤ 1048576 by decide)⟩, rfl, rfl⟩
  refine jP (cB (dF h_54)) <| jC <| jE <| jA (jw rfl rfl) <| jA (jG (v := .bool (decide (c.kind = 19))) rfl) <| jD <| jB ?_
  by_cases h_55 : c.kind = 19
  · refine jO (cB (dT h_55)) <| jU <| jB <| jO (cB (dT h_55)) <| jE <| jA (jJ fo51_3 rfl) <| jK (jV 2 (v := iv c.a) rfl rfl kp rfl) <| jA (jJ fo51_3 rfl) ?_
    refine jH rfl (jT 0 (vs := [iv c.a]) (cs' := [iv c.kind, str [], str [], iv c.a, iv 0, str []]) rfl rfl rfl rfl kt rfl rfl (lb rfl) rfl) ?_
    rintro _ _ rfl
    refine jD <| jk <| jB <| jC <| jE <| jK (jX 0 (vs := [iv c.kind, str [], str [], iv c.a, iv 0, str []]) rfl rfl ku ko rfl rfl) ?_
    refine jH rfl (jT 1 (vs := [iv c.kind, str [], str [], iv c.a, iv 0, str []]) (cs' := [iv c.kind, str [], str [], iv c.a, iv 0, str []]) rfl rfl rfl rfl ko rfl rfl (lb rfl) rfl) ?_
    rintro _ _ rfl
    refine jD <| jB <| jL <| jR (.inl rfl) rfl (je (jX 1 (vs := [iv c.kind, str [], str [], iv c.a, iv 0, str []]) rfl rfl ku ko rfl rfl) ⟨_, rfl⟩) (List.nil_sublist _) ?_
    exact ⟨(⟨c.kind, [], [], c.a, 0, []⟩ : CL), ⟨by (try dsimp only); omega, by (try dsimp only); omega, by (try dsimp only); omega, (show List.length ([] : Str) ≤ 1048576 by decide), (show List.length ([] : Str) ≤ 1048576 by decide), (show List.length ([] : Str) ≤ 1048576 by decide)⟩, rfl, rfl⟩
  refine jP (cB (dF h_55)) <| jE <| jA (jw rfl rfl) <| jA (jG (v := .bool (decide (c.kind = 21))) rfl) <| jD <| jB ?_
  by_cases h_56 : c.kind = 21
  · refine jO (cB (dT h_56)) <| jE <| jA (jJ fo51_3 rfl) <| jK (jV 2 (v := iv c.a) rfl rfl kp rfl) <| jA (jJ fo51_3 rfl) ?_
    refine jH rfl (jT 0 (vs := [iv c.a]) (cs' := [iv c.kind, str [], str [], iv c.a, iv 0, str []]) rfl rfl rfl rfl kt rfl rfl (lb rfl) rfl) ?_
    rintro _ _ rfl
    refine jD <| jk <| jB <| jC <| jE <| jK (jX 0 (vs := [iv c.kind, str [], str [], iv c.a, iv 0, str []]) rfl rfl ku ko rfl rfl) ?_
    refine jH rfl (jT 1 (vs := [iv c.kind, str [], str [], iv c.a, iv 0, str []]) (cs' := [iv c.kind, str [], str [], iv c.a, iv 0, str []]) rfl rfl rfl rfl ko rfl rfl (lb rfl) rfl) ?_
    rintro _ _ rfl
    refine jD <| jB <| jL <| jR (.inl rfl) rfl (je (jX 1 (vs := [iv c.kind, str [], str [], iv c.a, iv 0, str []]) rfl rfl ku ko rfl rfl) ⟨_, rfl⟩) (List.nil_sublist _) ?_
    exact ⟨(⟨c.kind, [], [], c.a, 0, []⟩ : CL), ⟨by (try dsimp only); omega, by (try dsimp only); omega, by (try dsimp only); omega, (show List.length ([] : Str) ≤ 1048576 by decide), (show List.length ([] : Str) ≤ 1048576 by decide), (show List.length ([] : Str) ≤ 1048576 by decide)⟩, rfl, rfl⟩
  refine jP (cB (dF h_56)) <| jC <| jC <| jE <| jA (jw rfl rfl) <| jA (jG (v := .bool (decide (c.kind = 7))) rfl) <| jD <| jB <| jP (cB (dF h_39)) <| jC ?_
  refine jE <| jA (jw rfl rfl) <| jA (jG (v := .bool (decide (c.kind = 10))) rfl) <| jD <| jB ?_
  by_cases h_57 : c.kind = 10
  · refine jO (cB (dT h_57)) <| jU <| jB <| jO (cB (dT h_57)) <| jC <| jE <| jA (jJ fo51_3 rfl) <| jK (jV 2 (v := iv c.a) rfl rfl kp rfl) <| jA (jJ fo51_3 rfl) ?_
    refine jH rfl (jT 0 (vs := [iv c.a]) (cs' := [iv c.kind, str [], str [], iv c.a, iv 0, str []]) rfl rfl rfl rfl kt rfl rfl (lb rfl) rfl) ?_
    rintro _ _ rfl
    refine jD <| jB <| jE <| jA (jJ fo51_5 rfl) <| jK (jV 2 (v := str c.text) rfl rfl kv rfl) <| jA (jJ fo51_5 rfl) ?_
    refine jH rfl (jT 0 (vs := [str c.text]) (cs' := [iv c.kind, str [], str [], iv c.a, iv 0, str c.text]) rfl rfl rfl rfl kw rfl rfl (lb rfl) rfl) ?_
    rintro _ _ rfl
    refine jD <| jk <| jB <| jC <| jE <| jK (jX 0 (vs := [iv c.kind, str [], str [], iv c.a, iv 0, str c.text]) rfl rfl ku ko rfl rfl) ?_
    refine jH rfl (jT 1 (vs := [iv c.kind, str [], str [], iv c.a, iv 0, str c.text]) (cs' := [iv c.kind, str [], str [], iv c.a, iv 0, str c.text]) rfl rfl rfl rfl ko rfl rfl (lb rfl) rfl) ?_
    rintro _ _ rfl
    refine jD <| jB <| jL <| jR (.inl rfl) rfl (je (jX 1 (vs := [iv c.kind, str [], str [], iv c.a, iv 0, str c.text]) rfl rfl ku ko rfl rfl) ⟨_, rfl⟩) (List.nil_sublist _) ?_
    exact ⟨(⟨c.kind, [], [], c.a, 0, c.text⟩ : CL), ⟨by (try dsimp only); omega, by (try dsimp only); omega, by (try dsimp only); omega, (show List.length ([] : Str) ≤ 1048576 by decide), (show List.length ([] : Str) ≤ 1048576 by decide), (show List.length (c.text : Str) ≤ 1048576 by omega)⟩, rfl, rfl⟩
  refine jP (cB (dF h_57)) <| jE <| jA (jw rfl rfl) <| jA (jG (v := .bool (decide (c.kind = 20))) rfl) <| jD <| jB ?_
  by_cases h_58 : c.kind = 20
  · refine jO (cB (dT h_58)) <| jC <| jE <| jA (jJ fo51_3 rfl) <| jK (jV 2 (v := iv c.a) rfl rfl kp rfl) <| jA (jJ fo51_3 rfl) ?_
    refine jH rfl (jT 0 (vs := [iv c.a]) (cs' := [iv c.kind, str [], str [], iv c.a, iv 0, str []]) rfl rfl rfl rfl kt rfl rfl (lb rfl) rfl) ?_
    rintro _ _ rfl
    refine jD <| jB <| jE <| jA (jJ fo51_5 rfl) <| jK (jV 2 (v := str c.text) rfl rfl kv rfl) <| jA (jJ fo51_5 rfl) ?_
    refine jH rfl (jT 0 (vs := [str c.text]) (cs' := [iv c.kind, str [], str [], iv c.a, iv 0, str c.text]) rfl rfl rfl rfl kw rfl rfl (lb rfl) rfl) ?_
    rintro _ _ rfl
    refine jD <| jk <| jB <| jC <| jE <| jK (jX 0 (vs := [iv c.kind, str [], str [], iv c.a, iv 0, str c.text]) rfl rfl ku ko rfl rfl) ?_
    refine jH rfl (jT 1 (vs := [iv c.kind, str [], str [], iv c.a, iv 0, str c.text]) (cs' := [iv c.kind, str [], str [], iv c.a, iv 0, str c.text]) rfl rfl rfl rfl ko rfl rfl (lb rfl) rfl) ?_
    rintro _ _ rfl
    refine jD <| jB <| jL <| jR (.inl rfl) rfl (je (jX 1 (vs := [iv c.kind, str [], str [], iv c.a, iv 0, str c.text]) rfl rfl ku ko rfl rfl) ⟨_, rfl⟩) (List.nil_sublist _) ?_
    exact ⟨(⟨c.kind, [], [], c.a, 0, c.text⟩ : CL), ⟨by (try dsimp only); omega, by (try dsimp only); omega, by (try dsimp only); omega, (show List.length ([] : Str) ≤ 1048576 by decide), (show List.length ([] : Str) ≤ 1048576 by decide), (show List.length (c.text : Str) ≤ 1048576 by omega)⟩, rfl, rfl⟩
  refine jP (cB (dF h_58)) <| jC <| jE <| jA (jw rfl rfl) <| jA (jG (v := .bool (decide (c.kind = 22))) rfl) <| jD <| jB ?_
  by_cases h_59 : c.kind = 22
  · refine jO (cB (dT h_59)) <| jE <| jA (jJ fo51_5 rfl) <| jK (jV 2 (v := str c.text) rfl rfl kv rfl) <| jA (jJ fo51_5 rfl) ?_
    refine jH rfl (jT 0 (vs := [str c.text]) (cs' := [iv c.kind, str [], str [], iv 0, iv 0, str c.text]) rfl rfl rfl rfl kw rfl rfl (lb rfl) rfl) ?_
    rintro _ _ rfl
    refine jD <| jk <| jB <| jC <| jE <| jK (jX 0 (vs := [iv c.kind, str [], str [], iv 0, iv 0, str c.text]) rfl rfl ku ko rfl rfl) ?_
    refine jH rfl (jT 1 (vs := [iv c.kind, str [], str [], iv 0, iv 0, str c.text]) (cs' := [iv c.kind, str [], str [], iv 0, iv 0, str c.text]) rfl rfl rfl rfl ko rfl rfl (lb rfl) rfl) ?_
    rintro _ _ rfl
    refine jD <| jB <| jL <| jR (.inl rfl) rfl (je (jX 1 (vs := [iv c.kind, str [], str [], iv 0, iv 0, str c.text]) rfl rfl ku ko rfl rfl) ⟨_, rfl⟩) (List.nil_sublist _) ?_
    exact ⟨(⟨c.kind, [], [], 0, 0, c.text⟩ : CL), ⟨by (try dsimp only); omega, by (try dsimp only); omega, by (try dsimp only); omega, (show List.length ([] : Str) ≤ 1048576 by decide), (show List.length ([] : Str) ≤ 1048576 by decide), (show List.length (c.text : Str) ≤ 1048576 by omega)⟩, rfl, rfl⟩
  refine jP (cB (dF h_59)) <| jU <| jk <| jB <| jC <| jE <| jK (jX 0 (vs := [iv c.kind, str [], str [], iv 0, iv 0, str []]) rfl rfl ku ko rfl rfl) ?_
  refine jH rfl (jT 1 (vs := [iv c.kind, str [], str [], iv 0, iv 0, str []]) (cs' := [iv c.kind, str [], str [], iv 0, iv 0, str []]) rfl rfl rfl rfl ko rfl rfl (lb rfl) rfl) ?_
  rintro _ _ rfl
  refine jD <| jB <| jL <| jR (.inl rfl) rfl (je (jX 1 (vs := [iv c.kind, str [], str [], iv 0, iv 0, str []]) rfl rfl ku ko rfl rfl) ⟨_, rfl⟩) (List.nil_sublist _) ?_
  exact ⟨(⟨c.kind, [], [], 0, 0, []⟩ : CL), ⟨by (try dsimp only); omega, by (try dsimp only); omega, by (try dsimp only); omega, (show List.length ([] : Str) ≤ 1048576 by decide), (show List.length ([] : Str) ≤ 1048576 by decide), (show List.length ([] : Str) ≤ 1048576 by decide)⟩, rfl, rfl⟩

theorem D_call13 (qb : Nat) (qa : Option Addr) (qc : Nat) (ql : Str) (qp : Nat) (qs : Int) (hql : ql.length ≤ 1048576) (hqp : qp ≤ ql.length)  :
    Ct Tryz.prog 202 [.pointer (some ⟨qb, 0, none⟩)] [cb qb qa qc ql qp qs] (fun w => seesC w qa qc ql [cb qb qa qc ql qp qs]) (fun v A' => ∃ (qp' : _) (qs' : _) (r0 : CL), qp' ≤ ql.length ∧ r0.ok 1048576 ∧ v = .agg #[.int .i64 r0.kind, str r0.name, str r0.to_, .int .i64 r0.a, .int .i64 r0.b, str r0.text] ∧ A' = [cb qb qa qc ql qp' qs']) := by
  refine Ct.intro Tryz.func202 rfl Tryz.ntmps202 (lb rfl) fun w0 hpre => ?_
  have hs_qa : Sees w0 _ _ _ _ := hpre.1
  refine jC <| jE ?_
  refine jH rfl (jn (z := .agg #[iv 0, str [], str [], iv 0, iv 0, str []]) (cs := [iv 0, str [], str [], iv 0, iv 0, str []]) gr rfl) ?_
  rintro _ _ ⟨b_1, rfl, rfl⟩
  refine jD <| jB <| jC <| jE <| jA (jF (v := .pointer (some ⟨qb, 0, none⟩)) rfl) ?_
  refine jH rfl (kJ (ps := [(0, iv 1), (1, iv 1), (2, iv 2), (3, iv 3), (4, iv 4), (5, iv 5), (6, iv 6), (7, iv 6), (8, iv 7), (9, iv 7), (10, iv 8), (11, iv 9), (12, iv 10), (13, iv 10), (14, iv 11), (15, iv 11), (16, iv 12), (17, iv 13), (18, iv 14), (19, iv 15), (20, iv 16), (21, iv 17), (22, iv 18), (23, iv 19), (24, iv 20), (25, iv 21), (26, iv 22), (27, iv 22)]) (cur := #[iv 1, iv 1, iv 2, iv 3, iv 4, iv 5, iv 6, iv 6, iv 7, iv 7, iv 8, iv 9, iv 10, iv 10, iv 11, iv 11, iv 12, iv 13, iv 14, iv 15, iv 16, iv 17, iv 18, iv 19, iv 20, iv 21, iv 22, iv 22]) gB kt Tryz.zeroValue3 rfl (by kernel_rfl) (by decide) (by decide)) ?_
  rintro _ _ ⟨a_2, rfl, rfl⟩
  refine jH rfl (jM [2, 0] Tryz.call242 rfl (D_pickInt qb qa qc ql qp qs a_2 28 ([1, 1, 2, 3, 4, 5, 6, 6, 7, 7, 8, 9, 10, 10, 11, 11, 12, 13, 14, 15, 16, 17, 18, 19, 20, 21, 22, 22] : List Int) (by omega) (by omega) (by simp) (by simp)) rfl (fun w hw => ⟨hw.seeOut_ hs_qa (hpre.2), hw.apart hs_qa (hpre.2) (by simp)⟩)) ?_
  rintro _ _ ⟨_, ⟨qp_3, qs_4, n_6, fq_5, f_7, rfl, rfl⟩, rfl⟩
  have hbn_6 : -9223372036854775808 ≤ n_6 ∧ n_6 ≤ 9223372036854775807 := by have hx_ := f_7; simp only [List.mem_cons, List.not_mem_nil, or_false] at hx_; omega
  refine jA (kY (ps := [(0, iv n_6)]) (cs := [iv n_6, str [], str [], iv 0, iv 0, str []]) rfl (by kernel_rfl)) ?_
  refine jH rfl (jn (z := .agg #[iv 0, str [], str [], iv 0, iv 0, str []]) (cs := [iv 0, str [], str [], iv 0, iv 0, str []]) gr rfl) ?_
  rintro _ _ ⟨b_9, rfl, rfl⟩
  refine jH rfl (jT 0 (vs := [iv n_6, str [], str [], iv 0, iv 0, str []]) (cs' := [iv n_6, str [], str [], iv 0, iv 0, str []]) rfl rfl rfl rfl ko rfl rfl (lb rfl) rfl) ?_
  rintro _ _ rfl
  refine jD <| jB <| jC <| jE <| jA (jF (v := .pointer (some ⟨qb, 0, none⟩)) rfl) ?_
  refine jH rfl (kJ (ps := [(0, str [120]), (1, str [121]), (2, str [108, 111, 103])]) (cur := #[str [120], str [121], str [108, 111, 103]]) ks kw gQ rfl (by kernel_rfl) (by decide) (by decide)) ?_
  rintro _ _ ⟨a_10, rfl, rfl⟩
  refine jH rfl (jM [2, 0] Tryz.call206 rfl (D_pick qb qa qc ql qp_3 qs_4 a_10 3 ([[120], [121], [108, 111, 103]] : List Str) (by omega) (by omega) (by simp) (by simp)) rfl (fun w hw => ⟨hw.seeOut_ hs_qa (hpre.2), hw.apart hs_qa (hpre.2) (by simp)⟩)) ?_
  rintro _ _ ⟨_, ⟨qp_11, qs_12, u_14, fq_13, f_15, rfl, rfl⟩, rfl⟩
  have hlu_14 : u_14.length ≤ 64 := by have hx_ := f_15; simp only [List.mem_cons, List.not_mem_nil, or_false] at hx_; rcases hx_ with hx_ | hx_ | hx_ <;> first | (rw [hx_]; decide) | (rw [hx_]; omega)
  refine jA (jJ fo51_1 rfl) ?_
  refine jH rfl (jT 1 (vs := [str u_14]) (cs' := [iv n_6, str u_14, str [], iv 0, iv 0, str []]) rfl rfl rfl rfl kw rfl rfl (lb rfl) rfl) ?_
  rintro _ _ rfl
  refine jD <| jB <| jC <| jE <| jA (jF (v := .pointer (some ⟨qb, 0, none⟩)) rfl) ?_
  refine jH rfl (kJ (ps := [(0, str [120]), (1, str [121]), (2, str [122])]) (cur := #[str [120], str [121], str [122]]) ks kw gQ rfl (by kernel_rfl) (by decide) (by decide)) ?_
  rintro _ _ ⟨a_17, rfl, rfl⟩
  refine jH rfl (jM [1, 0] Tryz.call206 rfl (D_pick qb qa qc ql qp_11 qs_12 a_17 3 ([[120], [121], [122]] : List Str) (by omega) (by omega) (by simp) (by simp)) rfl (fun w hw => ⟨hw.seeOut_ hs_qa (hpre.2), hw.apart hs_qa (hpre.2) (by simp)⟩)) ?_
  rintro _ _ ⟨_, ⟨qp_18, qs_19, u_21, fq_20, f_22, rfl, rfl⟩, rfl⟩
  have hlu_21 : u_21.length ≤ 64 := by have hx_ := f_22; simp only [List.mem_cons, List.not_mem_nil, or_false] at hx_; rcases hx_ with hx_ | hx_ | hx_ <;> first | (rw [hx_]; decide) | (rw [hx_]; omega)
  refine jA (jJ fo51_2 rfl) ?_
  refine jH rfl (jT 1 (vs := [str u_21]) (cs' := [iv n_6, str u_14, str u_21, iv 0, iv 0, str []]) rfl rfl rfl rfl kw rfl rfl (lb rfl) rfl) ?_
  rintro _ _ rfl
  refine jD <| jB <| jC <| jE <| jA (jF (v := .pointer (some ⟨qb, 0, none⟩)) rfl) ?_
  refine jH rfl (jM [0] Tryz.call33 rfl (D_below qb qa qc ql qp_18 qs_19 (by omega) (by omega) 4 (by omega)) rfl (fun w hw => ⟨hw.seeOut_ hs_qa (hpre.2), hw.apart hs_qa (hpre.2) (by simp)⟩)) ?_
  rintro _ _ ⟨_, ⟨qp_24, qs_25, n_27, fq_26, f_28, rfl, rfl⟩, rfl⟩
  refine jA (jJ fo51_3 rfl) ?_
  refine jH rfl (jT 1 (vs := [nv n_27]) (cs' := [iv n_6, str u_14, str u_21, nv n_27, iv 0, str []]) rfl rfl rfl rfl kt rfl rfl (lb rfl) rfl) ?_
  rintro _ _ rfl
  refine jD <| jB <| jC <| jE <| jA (jF (v := .pointer (some ⟨qb, 0, none⟩)) rfl) ?_
  refine jH rfl (jM [0] Tryz.call33 rfl (D_below qb qa qc ql qp_24 qs_25 (by omega) (by omega) 12 (by omega)) rfl (fun w hw => ⟨hw.seeOut_ hs_qa (hpre.2), hw.apart hs_qa (hpre.2) (by simp)⟩)) ?_
  rintro _ _ ⟨_, ⟨qp_30, qs_31, n_33, fq_32, f_34, rfl, rfl⟩, rfl⟩
  refine jA (ji (c := ((1 + n_33 : Nat) : Int)) rfl rfl (wr (by omega))) <| jA (jJ fo51_4 rfl) ?_
  refine jH rfl (jT 1 (vs := [iv ((1 + n_33 : Nat) : Int)]) (cs' := [iv n_6, str u_14, str u_21, nv n_27, iv ((1 + n_33 : Nat) : Int), str []]) rfl rfl rfl rfl kt rfl rfl (lb rfl) rfl) ?_
  rintro _ _ rfl
  refine jD <| jB <| jC <| jE <| jA (jF (v := .pointer (some ⟨qb, 0, none⟩)) rfl) <| jA (jF (v := .pointer (some ⟨qb, 0, none⟩)) rfl) ?_
  refine jH rfl (jM [0] Tryz.call33 rfl (D_below qb qa qc ql qp_30 qs_31 (by omega) (by omega) 12 (by omega)) rfl (fun w hw => ⟨hw.seeOut_ hs_qa (hpre.2), hw.apart hs_qa (hpre.2) (by simp)⟩)) ?_
  rintro _ _ ⟨_, ⟨qp_36, qs_37, n_39, fq_38, f_40, rfl, rfl⟩, rfl⟩
  refine jH rfl (jM [0] Tryz.call243 rfl (D_text qb qa qc ql qp_36 qs_37 (by omega) (by omega) ((n_39 : Nat) : Int) (by omega)) rfl (fun w hw => ⟨hw.seeOut_ hs_qa (hpre.2), hw.apart hs_qa (hpre.2) (by simp)⟩)) ?_
  rintro _ _ ⟨_, ⟨qp_42, qs_43, u_45, fq_44, f_46, rfl, rfl⟩, rfl⟩
  refine jA (jJ fo51_5 rfl) ?_
  refine jH rfl (jT 1 (vs := [str u_45]) (cs' := [iv n_6, str u_14, str u_21, nv n_27, iv ((1 + n_33 : Nat) : Int), str u_45]) rfl rfl rfl rfl kw rfl rfl (lb rfl) rfl) ?_
  rintro _ _ rfl
  refine jD <| jB <| jC <| jC <| jE <| jA (jJ fo51_0 rfl) <| jK (jV 1 (v := iv n_6) rfl rfl kp rfl) <| jA (jw rfl rfl) <| jD <| jB ?_
  by_cases h_48 : n_6 = 6
  · refine jO (cB (dT h_48)) <| jE <| jA (jF (v := .pointer (some ⟨qb, 0, none⟩)) rfl) ?_
    refine jH rfl (jM [0] Tryz.call33 rfl (D_below qb qa qc ql qp_42 qs_43 (by omega) (by omega) 12 (by omega)) rfl (fun w hw => ⟨hw.seeOut_ hs_qa (hpre.2), hw.apart hs_qa (hpre.2) (by simp)⟩)) ?_
    rintro _ _ ⟨_, ⟨qp_49, qs_50, n_52, fq_51, f_53, rfl, rfl⟩, rfl⟩
    refine jA (jJ fo51_3 rfl) ?_
    refine jH rfl (jT 1 (vs := [nv n_52]) (cs' := [iv n_6, str u_14, str u_21, nv n_52, iv ((1 + n_33 : Nat) : Int), str u_45]) rfl rfl rfl rfl kt rfl rfl (lb rfl) rfl) ?_
    rintro _ _ rfl
    refine jD <| jB <| jC <| jE <| jK (jX 1 (vs := [iv n_6, str u_14, str u_21, nv n_52, iv ((1 + n_33 : Nat) : Int), str u_45]) rfl rfl ku ko rfl rfl) ?_
    refine jH rfl (jM [] Tryz.call244 rfl (D_told (⟨n_6, u_14, u_21, ((n_52 : Nat) : Int), ((1 + n_33 : Nat) : Int), u_45⟩ : CL) ⟨by (try dsimp only); omega, by (try dsimp only); omega, by (try dsimp only); omega, (show List.length (u_14 : Str) ≤ 1048576 by omega), (show List.length (u_21 : Str) ≤ 1048576 by omega), (show List.length (u_45 : Str) ≤ 1048576 by omega)⟩) rfl (fun _ _ => trivial)) ?_
    rintro _ _ ⟨_, ⟨C_55, f_56, rfl, rfl⟩, rfl⟩
    obtain ⟨f_561, f_562, f_563, f_564, f_565, f_566⟩ := id f_56
    refine jH rfl (jT 2 (vs := [iv C_55.kind, str C_55.name, str C_55.to_, iv C_55.a, iv C_55.b, str C_55.text]) (cs' := [iv C_55.kind, str C_55.name, str C_55.to_, iv C_55.a, iv C_55.b, str C_55.text]) rfl rfl rfl rfl ko rfl rfl (lb rfl) rfl) ?_
    rintro _ _ rfl
    refine jD <| jB <| jL <| jR (.inl rfl) rfl (je (jX 2 (vs := [iv C_55.kind, str C_55.name, str C_55.to_, iv C_55.a, iv C_55.b, str C_55.text]) rfl rfl ku ko rfl rfl) ⟨_, rfl⟩) (tS 1 _) ?_
    exact ⟨qp_49, qs_50, C_55, (by omega), f_56, rfl, rfl⟩
  refine jP (cB (dF h_48)) <| jU <| jB <| jC <| jE <| jK (jX 1 (vs := [iv n_6, str u_14, str u_21, nv n_27, iv ((1 + n_33 : Nat) : Int), str u_45]) rfl rfl ku ko rfl rfl) ?_
  refine jH rfl (jM [] Tryz.call244 rfl (D_told (⟨n_6, u_14, u_21, ((n_27 : Nat) : Int), ((1 + n_33 : Nat) : Int), u_45⟩ : CL) ⟨by (try dsimp only); omega, by (try dsimp only); omega, by (try dsimp only); omega, (show List.length (u_14 : Str) ≤ 1048576 by omega), (show List.length (u_21 : Str) ≤ 1048576 by omega), (show List.length (u_45 : Str) ≤ 1048576 by omega)⟩) rfl (fun _ _ => trivial)) ?_
  rintro _ _ ⟨_, ⟨C_58, f_59, rfl, rfl⟩, rfl⟩
  obtain ⟨f_591, f_592, f_593, f_594, f_595, f_596⟩ := id f_59
  refine jH rfl (jT 2 (vs := [iv C_58.kind, str C_58.name, str C_58.to_, iv C_58.a, iv C_58.b, str C_58.text]) (cs' := [iv C_58.kind, str C_58.name, str C_58.to_, iv C_58.a, iv C_58.b, str C_58.text]) rfl rfl rfl rfl ko rfl rfl (lb rfl) rfl) ?_
  rintro _ _ rfl
  refine jD <| jB <| jL <| jR (.inl rfl) rfl (je (jX 2 (vs := [iv C_58.kind, str C_58.name, str C_58.to_, iv C_58.a, iv C_58.b, str C_58.text]) rfl rfl ku ko rfl rfl) ⟨_, rfl⟩) (tS 1 _) ?_
  exact ⟨qp_42, qs_43, C_58, (by omega), f_59, rfl, rfl⟩

theorem D_machOfB (sa : Option Addr) (sc : Nat) (s : List Cell) (hs : s.length ≤ 1000000000) {n : Nat} (hO : okC' n 1048576 s) :
    Ct Tryz.prog 54 [.slice sa s.length sc] [] (fun w => Sees w (.slice sa s.length sc) 2 s.length (s.flatMap encC)) (fun v A' => ∃ r0x r0, (fun s => (⟨s, [], []⟩ : MS)) s = r0 ∧ r0.ok n 0 ∧ v = mv r0x r0 ∧ A' = mr r0x r0) := (D_machOf0 sa sc s hs).toMachB hO

theorem D_callOn (sa : Option Addr) (sc : Nat) (s : List Cell) (proc : Int) (c : CL) (hs : s.length ≤ 18000000) (hproc : -9223372036854775808 ≤ proc ∧ proc ≤ 9223372036854775807) (hc : c.ok 1048576) {n : Nat} (hO : okC' n 1048576 s) (hn : n ≤ 18000000) :
    Ct Tryz.prog 50 [.slice sa s.length sc, .int .i64 proc, .agg #[.int .i64 c.kind, str c.name, str c.to_, .int .i64 c.a, .int .i64 c.b, str c.text]] ([]) (fun w => Sees w (.slice sa s.length sc) 2 s.length (s.flatMap encC)) (fun v A' => ∃ (x' : MA) (m' : MS) (r0 : AN), (⟨s, [], []⟩ : MS).doCall proc c = (m', r0) ∧ m'.ok (3 * n + 20) (7 * n + 200) ∧ ((0 ≤ r0.code ∧ r0.code ≤ 9) ∧ (-1 ≤ r0.n ∧ r0.n ≤ 1000000000) ∧ r0.text.length ≤ 30000000000000) ∧ v = .tuple #[.slice x'.a0 m'.s.length x'.c0, .agg #[.int .i64 r0.code, .int .i64 r0.n, str r0.text], .agg #[.slice x'.a1 m'.r.length x'.c1, .slice x'.a2 m'.w.length x'.c2]] ∧ A' = mr x' m') := by
  refine Ct.intro Tryz.func50 rfl Tryz.ntmps50 (lb rfl) fun w0 hpre => ?_
  have hs_sa : Sees w0 _ _ _ _ := hpre
  obtain ⟨hc1, hc2, hc3, hc4, hc5, hc6⟩ := id hc
  refine jC <| jE ?_
  refine jH rfl (jy (cs := [iv c.kind, str c.name, str c.to_, iv c.a, iv c.b, str c.text]) rfl rfl) ?_
  rintro _ _ ⟨b_1, rfl, rfl⟩
  refine jA (jG (v := .slice none 0 0) rfl) ?_
  refine jH rfl (jn (z := .agg #[iv 0, iv 0, str []]) (cs := [iv 0, iv 0, str []]) gG rfl) ?_
  rintro _ _ ⟨b_2, rfl, rfl⟩
  refine jH rfl (jn (z := .agg #[.slice none 0 0, .slice none 0 0]) (cs := [.slice none 0 0, .slice none 0 0]) gU rfl) ?_
  rintro _ _ ⟨b_3, rfl, rfl⟩
  refine jD <| jB <| jC <| jr [bk b_1 51 [iv c.kind, str c.name, str c.to_, iv c.a, iv c.b, str c.text]] 10 mixed (by simp) <| jI 0 rfl (jF (v := .slice sa s.length sc) rfl) <| jI 2 rfl (jF (v := iv proc) rfl) <| jh 3 rfl (jX 0 (vs := [iv c.kind, str c.name, str c.to_, iv c.a, iv c.b, str c.text]) rfl rfl ku ko rfl rfl) ?_
  refine JA.three (i := 1) (j := 8) (k := 9) (by kernel_rfl) ?_ ?_ ?_
  · refine jY rfl rfl (jM [] Tryz.call54 rfl (D_machOfB sa sc s (by first | omega | simp) hO) rfl (fun w hw => hw.seeOut_ hs_sa nM)) ?_
    rintro _ _ ⟨_, ⟨x_18, m_19, e_21, k_20, rfl, rfl⟩, rfl⟩
    refine ⟨(by simp), ?_⟩
    refine JA.three (i := 4) (j := 8) (k := 9) (by kernel_rfl) ?_ ?_ ?_
    · refine jY rfl rfl (jM [0, 0, 0] Tryz.call94 rfl (M_do x_18 m_19 k_20 (by omega) (by omega) proc c (by omega) hc) rfl (fun _ _ => trivial)) ?_
      rintro _ _ ⟨_, ⟨x_32, m_33, A_34, e_30, k_31, f_35, rfl, rfl⟩, rfl⟩
      refine ⟨(by simp), ?_⟩
      refine jI 5 rfl (jF (v := .tuple #[mv x_32 m_33, .agg #[iv A_34.code, iv A_34.n, str A_34.text]]) rfl) <| jI 6 rfl (jb (v := mv x_32 m_33) rfl rfl) <| jI 7 rfl (jb (v := .agg #[iv A_34.code, iv A_34.n, str A_34.text]) rfl rfl) ?_
      refine kX (i := 8) (j := 9) (by kernel_rfl) ?_ ?_
      · refine jY rfl rfl (jn (z := zM) (cs := zC) gI rfl) ?_
        rintro _ _ ⟨b_38, rfl, rfl⟩
        refine ⟨(by simp), ?_⟩
        refine jQ (i := 9) ?_
        refine jY rfl rfl (jn (z := .agg #[iv 0, iv 0, str []]) (cs := [iv 0, iv 0, str []]) gG rfl) ?_
        rintro _ _ ⟨b_40, rfl, rfl⟩
        refine ⟨(by simp), ?_⟩
        refine jQ (i := 10) ?_
        refine kF rfl (jm 1 x_32 m_33 rfl rfl rfl rfl) ?_
        rintro _ _ rfl
        refine jQ (i := 11) ?_
        refine jx rfl (jT 0 (vs := [iv A_34.code, iv A_34.n, str A_34.text]) (cs' := [iv A_34.code, iv A_34.n, str A_34.text]) rfl rfl rfl rfl kr rfl rfl (lb rfl) rfl) ?_
        rintro _ _ rfl
        refine jB <| jC <| jr [bk b_40 45 [iv A_34.code, iv A_34.n, str A_34.text], mb b_38 x_32 m_33] 7 mixed (by simp) <| jI 0 rfl (jJ fo99_0 rfl) <| jh 1 rfl (jV 1 (v := .slice x_32.a0 m_33.s.length x_32.c0) rfl rfl gY rfl) <| jh 2 rfl (jX 0 (vs := [iv A_34.code, iv A_34.n, str A_34.text]) rfl rfl gA kr rfl rfl) <| jI 3 rfl (jJ fo99_1 rfl) <| jh 4 rfl (jX 1 (vs := [.slice x_32.a1 m_33.r.length x_32.c1, .slice x_32.a2 m_33.w.length x_32.c2]) rfl rfl gL kx rfl rfl) <| jI 5 rfl (jG (v := .slice x_32.a0 m_33.s.length x_32.c0) rfl) <| jQ (i := 6) ?_
        refine jY rfl rfl (jT 6 (vs := [iv A_34.code, iv A_34.n, str A_34.text]) (cs' := [iv A_34.code, iv A_34.n, str A_34.text]) rfl rfl rfl rfl kr rfl rfl (lb rfl) rfl) ?_
        rintro _ _ rfl
        refine ⟨(by simp), ?_⟩
        refine jQ (i := 7) ?_
        refine jx rfl (jT 5 (vs := [.slice x_32.a1 m_33.r.length x_32.c1, .slice x_32.a2 m_33.w.length x_32.c2]) (cs' := [.slice x_32.a1 m_33.r.length x_32.c1, .slice x_32.a2 m_33.w.length x_32.c2]) rfl rfl rfl rfl kx rfl rfl (lb rfl) rfl) ?_
        rintro _ _ rfl
        refine jB <| jL <| kR (pick_perm [2, 2, 2] (A := [rC x_32.a0 x_32.c0 m_33.s, rS x_32.a1 x_32.c1 m_33.r, rS x_32.a2 x_32.c2 m_33.w]) (F := [bk b_40 45 [iv A_34.code, iv A_34.n, str A_34.text], mb b_38 x_32 m_33, bk b_3 28 [.slice x_32.a1 m_33.r.length x_32.c1, .slice x_32.a2 m_33.w.length x_32.c2], bk b_2 45 [iv A_34.code, iv A_34.n, str A_34.text], bk b_1 51 [iv c.kind, str c.name, str c.to_, iv c.a, iv c.b, str c.text]]) rfl).symm <| ka (.inl rfl) rfl (jN (v := .slice x_32.a0 m_33.s.length x_32.c0) rfl) (je (jX 6 (vs := [iv A_34.code, iv A_34.n, str A_34.text]) rfl rfl gA kr rfl rfl) ⟨_, rfl⟩) (je (jX 5 (vs := [.slice x_32.a1 m_33.r.length x_32.c1, .slice x_32.a2 m_33.w.length x_32.c2]) rfl rfl gL kx rfl rfl) ⟨_, rfl⟩) (tS 3 _) ?_
        subst e_21
        exact ⟨x_32, m_33, A_34, e_30, (k_31.mono (by omega) (by omega)), (by (try dsimp only); omega), rfl, rfl⟩
      refine jY rfl rfl (jn (z := .agg #[iv 0, iv 0, str []]) (cs := [iv 0, iv 0, str []]) gG rfl) ?_
      rintro _ _ ⟨b_41, rfl, rfl⟩
      refine ⟨(by simp), ?_⟩
      refine jQ (i := 8) ?_
      refine jY rfl rfl (jn (z := zM) (cs := zC) gI rfl) ?_
      rintro _ _ ⟨b_43, rfl, rfl⟩
      refine ⟨(by simp), ?_⟩
      refine jQ (i := 10) ?_
      refine kF rfl (jm 0 x_32 m_33 rfl rfl rfl rfl) ?_
      rintro _ _ rfl
      refine jQ (i := 11) ?_
      refine jx rfl (jT 1 (vs := [iv A_34.code, iv A_34.n, str A_34.text]) (cs' := [iv A_34.code, iv A_34.n, str A_34.text]) rfl rfl rfl rfl kr rfl rfl (lb rfl) rfl) ?_
      rintro _ _ rfl
      refine jB <| jC <| jr [mb b_43 x_32 m_33, bk b_41 45 [iv A_34.code, iv A_34.n, str A_34.text]] 7 mixed (by simp) <| jI 0 rfl (jJ fo99_0 rfl) <| jh 1 rfl (jV 0 (v := .slice x_32.a0 m_33.s.length x_32.c0) rfl rfl gY rfl) <| jh 2 rfl (jX 1 (vs := [iv A_34.code, iv A_34.n, str A_34.text]) rfl rfl gA kr rfl rfl) <| jI 3 rfl (jJ fo99_1 rfl) <| jh 4 rfl (jX 0 (vs := [.slice x_32.a1 m_33.r.length x_32.c1, .slice x_32.a2 m_33.w.length x_32.c2]) rfl rfl gL kx rfl rfl) <| jI 5 rfl (jG (v := .slice x_32.a0 m_33.s.length x_32.c0) rfl) <| jQ (i := 6) ?_
      refine jY rfl rfl (jT 6 (vs := [iv A_34.code, iv A_34.n, str A_34.text]) (cs' := [iv A_34.code, iv A_34.n, str A_34.text]) rfl rfl rfl rfl kr rfl rfl (lb rfl) rfl) ?_
      rintro _ _ rfl
      refine ⟨(by simp), ?_⟩
      refine jQ (i := 7) ?_
      refine jx rfl (jT 5 (vs := [.slice x_32.a1 m_33.r.length x_32.c1, .slice x_32.a2 m_33.w.length x_32.c2]) (cs' := [.slice x_32.a1 m_33.r.length x_32.c1, .slice x_32.a2 m_33.w.length x_32.c2]) rfl rfl rfl rfl kx rfl rfl (lb rfl) rfl) ?_
      rintro _ _ rfl
      refine jB <| jL <| kR (pick_perm [2, 2, 2] (A := [rC x_32.a0 x_32.c0 m_33.s, rS x_32.a1 x_32.c1 m_33.r, rS x_32.a2 x_32.c2 m_33.w]) (F := [mb b_43 x_32 m_33, bk b_41 45 [iv A_34.code, iv A_34.n, str A_34.text], bk b_3 28 [.slice x_32.a1 m_33.r.length x_32.c1, .slice x_32.a2 m_33.w.length x_32.c2], bk b_2 45 [iv A_34.code, iv A_34.n, str A_34.text], bk b_1 51 [iv c.kind, str c.name, str c.to_, iv c.a, iv c.b, str c.text]]) rfl).symm <| ka (.inl rfl) rfl (jN (v := .slice x_32.a0 m_33.s.length x_32.c0) rfl) (je (jX 6 (vs := [iv A_34.code, iv A_34.n, str A_34.text]) rfl rfl gA kr rfl rfl) ⟨_, rfl⟩) (je (jX 5 (vs := [.slice x_32.a1 m_33.r.length x_32.c1, .slice x_32.a2 m_33.w.length x_32.c2]) rfl rfl gL kx rfl rfl) ⟨_, rfl⟩) (tS 3 _) ?_
      subst e_21
      exact ⟨x_32, m_33, A_34, e_30, (k_31.mono (by omega) (by omega)), (by (try dsimp only); omega), rfl, rfl⟩
    · refine jY rfl rfl (jn (z := zM) (cs := zC) gI rfl) ?_
      rintro _ _ ⟨b_44, rfl, rfl⟩
      refine ⟨(by simp), ?_⟩
      refine kX (i := 4) (j := 9) (by kernel_rfl) ?_ ?_
      · refine jY rfl rfl (jM [1, 1, 1] Tryz.call94 rfl (M_do x_18 m_19 k_20 (by omega) (by omega) proc c (by omega) hc) rfl (fun _ _ => trivial)) ?_
        rintro _ _ ⟨_, ⟨x_54, m_55, A_56, e_52, k_53, f_57, rfl, rfl⟩, rfl⟩
        refine ⟨(by simp), ?_⟩
        refine jI 5 rfl (jF (v := .tuple #[mv x_54 m_55, .agg #[iv A_56.code, iv A_56.n, str A_56.text]]) rfl) <| jI 6 rfl (jb (v := mv x_54 m_55) rfl rfl) <| jI 7 rfl (jb (v := .agg #[iv A_56.code, iv A_56.n, str A_56.text]) rfl rfl) <| jQ (i := 9) ?_
        refine jY rfl rfl (jn (z := .agg #[iv 0, iv 0, str []]) (cs := [iv 0, iv 0, str []]) gG rfl) ?_
        rintro _ _ ⟨b_59, rfl, rfl⟩
        refine ⟨(by simp), ?_⟩
        refine jQ (i := 10) ?_
        refine kF rfl (jm 4 x_54 m_55 rfl rfl rfl rfl) ?_
        rintro _ _ rfl
        refine jQ (i := 11) ?_
        refine jx rfl (jT 0 (vs := [iv A_56.code, iv A_56.n, str A_56.text]) (cs' := [iv A_56.code, iv A_56.n, str A_56.text]) rfl rfl rfl rfl kr rfl rfl (lb rfl) rfl) ?_
        rintro _ _ rfl
        refine jB <| jC <| jr [bk b_59 45 [iv A_56.code, iv A_56.n, str A_56.text], mb b_44 x_54 m_55] 7 mixed (by simp) <| jI 0 rfl (jJ fo99_0 rfl) <| jh 1 rfl (jV 1 (v := .slice x_54.a0 m_55.s.length x_54.c0) rfl rfl gY rfl) <| jh 2 rfl (jX 0 (vs := [iv A_56.code, iv A_56.n, str A_56.text]) rfl rfl gA kr rfl rfl) <| jI 3 rfl (jJ fo99_1 rfl) <| jh 4 rfl (jX 1 (vs := [.slice x_54.a1 m_55.r.length x_54.c1, .slice x_54.a2 m_55.w.length x_54.c2]) rfl rfl gL kx rfl rfl) <| jI 5 rfl (jG (v := .slice x_54.a0 m_55.s.length x_54.c0) rfl) <| jQ (i := 6) ?_
        refine jY rfl rfl (jT 6 (vs := [iv A_56.code, iv A_56.n, str A_56.text]) (cs' := [iv A_56.code, iv A_56.n, str A_56.text]) rfl rfl rfl rfl kr rfl rfl (lb rfl) rfl) ?_
        rintro _ _ rfl
        refine ⟨(by simp), ?_⟩
        refine jQ (i := 7) ?_
        refine jx rfl (jT 5 (vs := [.slice x_54.a1 m_55.r.length x_54.c1, .slice x_54.a2 m_55.w.length x_54.c2]) (cs' := [.slice x_54.a1 m_55.r.length x_54.c1, .slice x_54.a2 m_55.w.length x_54.c2]) rfl rfl rfl rfl kx rfl rfl (lb rfl) rfl) ?_
        rintro _ _ rfl
        refine jB <| jL <| kR (pick_perm [1, 1, 1] (A := [rC x_54.a0 x_54.c0 m_55.s, rS x_54.a1 x_54.c1 m_55.r, rS x_54.a2 x_54.c2 m_55.w]) (F := [bk b_59 45 [iv A_56.code, iv A_56.n, str A_56.text], mb b_44 x_54 m_55, bk b_3 28 [.slice x_54.a1 m_55.r.length x_54.c1, .slice x_54.a2 m_55.w.length x_54.c2], bk b_2 45 [iv A_56.code, iv A_56.n, str A_56.text], bk b_1 51 [iv c.kind, str c.name, str c.to_, iv c.a, iv c.b, str c.text]]) rfl).symm <| ka (.inl rfl) rfl (jN (v := .slice x_54.a0 m_55.s.length x_54.c0) rfl) (je (jX 6 (vs := [iv A_56.code, iv A_56.n, str A_56.text]) rfl rfl gA kr rfl rfl) ⟨_, rfl⟩) (je (jX 5 (vs := [.slice x_54.a1 m_55.r.length x_54.c1, .slice x_54.a2 m_55.w.length x_54.c2]) rfl rfl gL kx rfl rfl) ⟨_, rfl⟩) (tS 3 _) ?_
        subst e_21
        exact ⟨x_54, m_55, A_56, e_52, (k_53.mono (by omega) (by omega)), (by (try dsimp only); omega), rfl, rfl⟩
      refine jY rfl rfl (jn (z := .agg #[iv 0, iv 0, str []]) (cs := [iv 0, iv 0, str []]) gG rfl) ?_
      rintro _ _ ⟨b_60, rfl, rfl⟩
      refine ⟨(by simp), ?_⟩
      refine jQ (i := 4) ?_
      refine jY rfl rfl (jM [2, 2, 2] Tryz.call94 rfl (M_do x_18 m_19 k_20 (by omega) (by omega) proc c (by omega) hc) rfl (fun _ _ => trivial)) ?_
      rintro _ _ ⟨_, ⟨x_69, m_70, A_71, e_67, k_68, f_72, rfl, rfl⟩, rfl⟩
      refine ⟨(by simp), ?_⟩
      refine jI 5 rfl (jF (v := .tuple #[mv x_69 m_70, .agg #[iv A_71.code, iv A_71.n, str A_71.text]]) rfl) <| jI 6 rfl (jb (v := mv x_69 m_70) rfl rfl) <| jI 7 rfl (jb (v := .agg #[iv A_71.code, iv A_71.n, str A_71.text]) rfl rfl) <| jQ (i := 10) ?_
      refine kF rfl (jm 4 x_69 m_70 rfl rfl rfl rfl) ?_
      rintro _ _ rfl
      refine jQ (i := 11) ?_
      refine jx rfl (jT 3 (vs := [iv A_71.code, iv A_71.n, str A_71.text]) (cs' := [iv A_71.code, iv A_71.n, str A_71.text]) rfl rfl rfl rfl kr rfl rfl (lb rfl) rfl) ?_
      rintro _ _ rfl
      refine jB <| jC <| jr [bk b_60 45 [iv A_71.code, iv A_71.n, str A_71.text], mb b_44 x_69 m_70] 7 mixed (by simp) <| jI 0 rfl (jJ fo99_0 rfl) <| jh 1 rfl (jV 1 (v := .slice x_69.a0 m_70.s.length x_69.c0) rfl rfl gY rfl) <| jh 2 rfl (jX 0 (vs := [iv A_71.code, iv A_71.n, str A_71.text]) rfl rfl gA kr rfl rfl) <| jI 3 rfl (jJ fo99_1 rfl) <| jh 4 rfl (jX 1 (vs := [.slice x_69.a1 m_70.r.length x_69.c1, .slice x_69.a2 m_70.w.length x_69.c2]) rfl rfl gL kx rfl rfl) <| jI 5 rfl (jG (v := .slice x_69.a0 m_70.s.length x_69.c0) rfl) <| jQ (i := 6) ?_
      refine jY rfl rfl (jT 6 (vs := [iv A_71.code, iv A_71.n, str A_71.text]) (cs' := [iv A_71.code, iv A_71.n, str A_71.text]) rfl rfl rfl rfl kr rfl rfl (lb rfl) rfl) ?_
      rintro _ _ rfl
      refine ⟨(by simp), ?_⟩
      refine jQ (i := 7) ?_
      refine jx rfl (jT 5 (vs := [.slice x_69.a1 m_70.r.length x_69.c1, .slice x_69.a2 m_70.w.length x_69.c2]) (cs' := [.slice x_69.a1 m_70.r.length x_69.c1, .slice x_69.a2 m_70.w.length x_69.c2]) rfl rfl rfl rfl kx rfl rfl (lb rfl) rfl) ?_
      rintro _ _ rfl
      refine jB <| jL <| ka (.inl rfl) rfl (jN (v := .slice x_69.a0 m_70.s.length x_69.c0) rfl) (je (jX 6 (vs := [iv A_71.code, iv A_71.n, str A_71.text]) rfl rfl gA kr rfl rfl) ⟨_, rfl⟩) (je (jX 5 (vs := [.slice x_69.a1 m_70.r.length x_69.c1, .slice x_69.a2 m_70.w.length x_69.c2]) rfl rfl gL kx rfl rfl) ⟨_, rfl⟩) (tS 3 _) ?_
      subst e_21
      exact ⟨x_69, m_70, A_71, e_67, (k_68.mono (by omega) (by omega)), (by (try dsimp only); omega), rfl, rfl⟩
    refine jY rfl rfl (jn (z := .agg #[iv 0, iv 0, str []]) (cs := [iv 0, iv 0, str []]) gG rfl) ?_
    rintro _ _ ⟨b_73, rfl, rfl⟩
    refine ⟨(by simp), ?_⟩
    refine kX (i := 4) (j := 8) (by kernel_rfl) ?_ ?_
    · refine jY rfl rfl (jM [1, 1, 1] Tryz.call94 rfl (M_do x_18 m_19 k_20 (by omega) (by omega) proc c (by omega) hc) rfl (fun _ _ => trivial)) ?_
      rintro _ _ ⟨_, ⟨x_83, m_84, A_85, e_81, k_82, f_86, rfl, rfl⟩, rfl⟩
      refine ⟨(by simp), ?_⟩
      refine jI 5 rfl (jF (v := .tuple #[mv x_83 m_84, .agg #[iv A_85.code, iv A_85.n, str A_85.text]]) rfl) <| jI 6 rfl (jb (v := mv x_83 m_84) rfl rfl) <| jI 7 rfl (jb (v := .agg #[iv A_85.code, iv A_85.n, str A_85.text]) rfl rfl) <| jQ (i := 8) ?_
      refine jY rfl rfl (jn (z := zM) (cs := zC) gI rfl) ?_
      rintro _ _ ⟨b_88, rfl, rfl⟩
      refine ⟨(by simp), ?_⟩
      refine jQ (i := 10) ?_
      refine kF rfl (jm 0 x_83 m_84 rfl rfl rfl rfl) ?_
      rintro _ _ rfl
      refine jQ (i := 11) ?_
      refine jx rfl (jT 4 (vs := [iv A_85.code, iv A_85.n, str A_85.text]) (cs' := [iv A_85.code, iv A_85.n, str A_85.text]) rfl rfl rfl rfl kr rfl rfl (lb rfl) rfl) ?_
      rintro _ _ rfl
      refine jB <| jC <| jr [mb b_88 x_83 m_84, bk b_73 45 [iv A_85.code, iv A_85.n, str A_85.text]] 7 mixed (by simp) <| jI 0 rfl (jJ fo99_0 rfl) <| jh 1 rfl (jV 0 (v := .slice x_83.a0 m_84.s.length x_83.c0) rfl rfl gY rfl) <| jh 2 rfl (jX 1 (vs := [iv A_85.code, iv A_85.n, str A_85.text]) rfl rfl gA kr rfl rfl) <| jI 3 rfl (jJ fo99_1 rfl) <| jh 4 rfl (jX 0 (vs := [.slice x_83.a1 m_84.r.length x_83.c1, .slice x_83.a2 m_84.w.length x_83.c2]) rfl rfl gL kx rfl rfl) <| jI 5 rfl (jG (v := .slice x_83.a0 m_84.s.length x_83.c0) rfl) <| jQ (i := 6) ?_
      refine jY rfl rfl (jT 6 (vs := [iv A_85.code, iv A_85.n, str A_85.text]) (cs' := [iv A_85.code, iv A_85.n, str A_85.text]) rfl rfl rfl rfl kr rfl rfl (lb rfl) rfl) ?_
      rintro _ _ rfl
      refine ⟨(by simp), ?_⟩
      refine jQ (i := 7) ?_
      refine jx rfl (jT 5 (vs := [.slice x_83.a1 m_84.r.length x_83.c1, .slice x_83.a2 m_84.w.length x_83.c2]) (cs' := [.slice x_83.a1 m_84.r.length x_83.c1, .slice x_83.a2 m_84.w.length x_83.c2]) rfl rfl rfl rfl kx rfl rfl (lb rfl) rfl) ?_
      rintro _ _ rfl
      refine jB <| jL <| kR (pick_perm [1, 1, 1] (A := [rC x_83.a0 x_83.c0 m_84.s, rS x_83.a1 x_83.c1 m_84.r, rS x_83.a2 x_83.c2 m_84.w]) (F := [mb b_88 x_83 m_84, bk b_73 45 [iv A_85.code, iv A_85.n, str A_85.text], bk b_3 28 [.slice x_83.a1 m_84.r.length x_83.c1, .slice x_83.a2 m_84.w.length x_83.c2], bk b_2 45 [iv A_85.code, iv A_85.n, str A_85.text], bk b_1 51 [iv c.kind, str c.name, str c.to_, iv c.a, iv c.b, str c.text]]) rfl).symm <| ka (.inl rfl) rfl (jN (v := .slice x_83.a0 m_84.s.length x_83.c0) rfl) (je (jX 6 (vs := [iv A_85.code, iv A_85.n, str A_85.text]) rfl rfl gA kr rfl rfl) ⟨_, rfl⟩) (je (jX 5 (vs := [.slice x_83.a1 m_84.r.length x_83.c1, .slice x_83.a2 m_84.w.length x_83.c2]) rfl rfl gL kx rfl rfl) ⟨_, rfl⟩) (tS 3 _) ?_
      subst e_21
      exact ⟨x_83, m_84, A_85, e_81, (k_82.mono (by omega) (by omega)), (by (try dsimp only); omega), rfl, rfl⟩
    refine jY rfl rfl (jn (z := zM) (cs := zC) gI rfl) ?_
    rintro _ _ ⟨b_89, rfl, rfl⟩
    refine ⟨(by simp), ?_⟩
    refine jQ (i := 4) ?_
    refine jY rfl rfl (jM [2, 2, 2] Tryz.call94 rfl (M_do x_18 m_19 k_20 (by omega) (by omega) proc c (by omega) hc) rfl (fun _ _ => trivial)) ?_
    rintro _ _ ⟨_, ⟨x_98, m_99, A_100, e_96, k_97, f_101, rfl, rfl⟩, rfl⟩
    refine ⟨(by simp), ?_⟩
    refine jI 5 rfl (jF (v := .tuple #[mv x_98 m_99, .agg #[iv A_100.code, iv A_100.n, str A_100.text]]) rfl) <| jI 6 rfl (jb (v := mv x_98 m_99) rfl rfl) <| jI 7 rfl (jb (v := .agg #[iv A_100.code, iv A_100.n, str A_100.text]) rfl rfl) <| jQ (i := 10) ?_
    refine kF rfl (jm 3 x_98 m_99 rfl rfl rfl rfl) ?_
    rintro _ _ rfl
    refine jQ (i := 11) ?_
    refine jx rfl (jT 4 (vs := [iv A_100.code, iv A_100.n, str A_100.text]) (cs' := [iv A_100.code, iv A_100.n, str A_100.text]) rfl rfl rfl rfl kr rfl rfl (lb rfl) rfl) ?_
    rintro _ _ rfl
    refine jB <| jC <| jr [mb b_89 x_98 m_99, bk b_73 45 [iv A_100.code, iv A_100.n, str A_100.text]] 7 mixed (by simp) <| jI 0 rfl (jJ fo99_0 rfl) <| jh 1 rfl (jV 0 (v := .slice x_98.a0 m_99.s.length x_98.c0) rfl rfl gY rfl) <| jh 2 rfl (jX 1 (vs := [iv A_100.code, iv A_100.n, str A_100.text]) rfl rfl gA kr rfl rfl) <| jI 3 rfl (jJ fo99_1 rfl) <| jh 4 rfl (jX 0 (vs := [.slice x_98.a1 m_99.r.length x_98.c1, .slice x_98.a2 m_99.w.length x_98.c2]) rfl rfl gL kx rfl rfl) <| jI 5 rfl (jG (v := .slice x_98.a0 m_99.s.length x_98.c0) rfl) <| jQ (i := 6) ?_
    refine jY rfl rfl (jT 6 (vs := [iv A_100.code, iv A_100.n, str A_100.text]) (cs' := [iv A_100.code, iv A_100.n, str A_100.text]) rfl rfl rfl rfl kr rfl rfl (lb rfl) rfl) ?_
    rintro _ _ rfl
    refine ⟨(by simp), ?_⟩
    refine jQ (i := 7) ?_
    refine jx rfl (jT 5 (vs := [.slice x_98.a1 m_99.r.length x_98.c1, .slice x_98.a2 m_99.w.length x_98.c2]) (cs' := [.slice x_98.a1 m_99.r.length x_98.c1, .slice x_98.a2 m_99.w.length x_98.c2]) rfl rfl rfl rfl kx rfl rfl (lb rfl) rfl) ?_
    rintro _ _ rfl
    refine jB <| jL <| ka (.inl rfl) rfl (jN (v := .slice x_98.a0 m_99.s.length x_98.c0) rfl) (je (jX 6 (vs := [iv A_100.code, iv A_100.n, str A_100.text]) rfl rfl gA kr rfl rfl) ⟨_, rfl⟩) (je (jX 5 (vs := [.slice x_98.a1 m_99.r.length x_98.c1, .slice x_98.a2 m_99.w.length x_98.c2]) rfl rfl gL kx rfl rfl) ⟨_, rfl⟩) (tS 3 _) ?_
    subst e_21
    exact ⟨x_98, m_99, A_100, e_96, (k_97.mono (by omega) (by omega)), (by (try dsimp only); omega), rfl, rfl⟩
  · refine jY rfl rfl (jn (z := zM) (cs := zC) gI rfl) ?_
    rintro _ _ ⟨b_102, rfl, rfl⟩
    refine ⟨(by simp), ?_⟩
    refine kX (i := 1) (j := 9) (by kernel_rfl) ?_ ?_
    · refine jY rfl rfl (jM [] Tryz.call54 rfl (D_machOfB sa sc s (by first | omega | simp) hO) rfl (fun w hw => hw.seeOut_ hs_sa nM)) ?_
      rintro _ _ ⟨_, ⟨x_108, m_109, e_111, k_110, rfl, rfl⟩, rfl⟩
      refine ⟨(by simp), ?_⟩
      refine kX (i := 4) (j := 9) (by kernel_rfl) ?_ ?_
      · refine jY rfl rfl (jM [0, 0, 0] Tryz.call94 rfl (M_do x_108 m_109 k_110 (by omega) (by omega) proc c (by omega) hc) rfl (fun _ _ => trivial)) ?_
        rintro _ _ ⟨_, ⟨x_121, m_122, A_123, e_119, k_120, f_124, rfl, rfl⟩, rfl⟩
        refine ⟨(by simp), ?_⟩
        refine jI 5 rfl (jF (v := .tuple #[mv x_121 m_122, .agg #[iv A_123.code, iv A_123.n, str A_123.text]]) rfl) <| jI 6 rfl (jb (v := mv x_121 m_122) rfl rfl) <| jI 7 rfl (jb (v := .agg #[iv A_123.code, iv A_123.n, str A_123.text]) rfl rfl) <| jQ (i := 9) ?_
        refine jY rfl rfl (jn (z := .agg #[iv 0, iv 0, str []]) (cs := [iv 0, iv 0, str []]) gG rfl) ?_
        rintro _ _ ⟨b_126, rfl, rfl⟩
        refine ⟨(by simp), ?_⟩
        refine jQ (i := 10) ?_
        refine kF rfl (jm 4 x_121 m_122 rfl rfl rfl rfl) ?_
        rintro _ _ rfl
        refine jQ (i := 11) ?_
        refine jx rfl (jT 0 (vs := [iv A_123.code, iv A_123.n, str A_123.text]) (cs' := [iv A_123.code, iv A_123.n, str A_123.text]) rfl rfl rfl rfl kr rfl rfl (lb rfl) rfl) ?_
        rintro _ _ rfl
        refine jB <| jC <| jr [bk b_126 45 [iv A_123.code, iv A_123.n, str A_123.text], mb b_102 x_121 m_122] 7 mixed (by simp) <| jI 0 rfl (jJ fo99_0 rfl) <| jh 1 rfl (jV 1 (v := .slice x_121.a0 m_122.s.length x_121.c0) rfl rfl gY rfl) <| jh 2 rfl (jX 0 (vs := [iv A_123.code, iv A_123.n, str A_123.text]) rfl rfl gA kr rfl rfl) <| jI 3 rfl (jJ fo99_1 rfl) <| jh 4 rfl (jX 1 (vs := [.slice x_121.a1 m_122.r.length x_121.c1, .slice x_121.a2 m_122.w.length x_121.c2]) rfl rfl gL kx rfl rfl) <| jI 5 rfl (jG (v := .slice x_121.a0 m_122.s.length x_121.c0) rfl) <| jQ (i := 6) ?_
        refine jY rfl rfl (jT 6 (vs := [iv A_123.code, iv A_123.n, str A_123.text]) (cs' := [iv A_123.code, iv A_123.n, str A_123.text]) rfl rfl rfl rfl kr rfl rfl (lb rfl) rfl) ?_
        rintro _ _ rfl
        refine ⟨(by simp), ?_⟩
        refine jQ (i := 7) ?_
        refine jx rfl (jT 5 (vs := [.slice x_121.a1 m_122.r.length x_121.c1, .slice x_121.a2 m_122.w.length x_121.c2]) (cs' := [.slice x_121.a1 m_122.r.length x_121.c1, .slice x_121.a2 m_122.w.length x_121.c2]) rfl rfl rfl rfl kx rfl rfl (lb rfl) rfl) ?_
        rintro _ _ rfl
        refine jB <| jL <| kR (pick_perm [1, 1, 1] (A := [rC x_121.a0 x_121.c0 m_122.s, rS x_121.a1 x_121.c1 m_122.r, rS x_121.a2 x_121.c2 m_122.w]) (F := [bk b_126 45 [iv A_123.code, iv A_123.n, str A_123.text], mb b_102 x_121 m_122, bk b_3 28 [.slice x_121.a1 m_122.r.length x_121.c1, .slice x_121.a2 m_122.w.length x_121.c2], bk b_2 45 [iv A_123.code, iv A_123.n, str A_123.text], bk b_1 51 [iv c.kind, str c.name, str c.to_, iv c.a, iv c.b, str c.text]]) rfl).symm <| ka (.inl rfl) rfl (jN (v := .slice x_121.a0 m_122.s.length x_121.c0) rfl) (je (jX 6 (vs := [iv A_123.code, iv A_123.n, str A_123.text]) rfl rfl gA kr rfl rfl) ⟨_, rfl⟩) (je (jX 5 (vs := [.slice x_121.a1 m_122.r.length x_121.c1, .slice x_121.a2 m_122.w.length x_121.c2]) rfl rfl gL kx rfl rfl) ⟨_, rfl⟩) (tS 3 _) ?_
        subst e_111
        exact ⟨x_121, m_122, A_123, e_119, (k_120.mono (by omega) (by omega)), (by (try dsimp only); omega), rfl, rfl⟩
      refine jY rfl rfl (jn (z := .agg #[iv 0, iv 0, str []]) (cs := [iv 0, iv 0, str []]) gG rfl) ?_
      rintro _ _ ⟨b_127, rfl, rfl⟩
      refine ⟨(by simp), ?_⟩
      refine jQ (i := 4) ?_
      refine jY rfl rfl (jM [1, 1, 1] Tryz.call94 rfl (M_do x_108 m_109 k_110 (by omega) (by omega) proc c (by omega) hc) rfl (fun _ _ => trivial)) ?_
      rintro _ _ ⟨_, ⟨x_136, m_137, A_138, e_134, k_135, f_139, rfl, rfl⟩, rfl⟩
      refine ⟨(by simp), ?_⟩
      refine jI 5 rfl (jF (v := .tuple #[mv x_136 m_137, .agg #[iv A_138.code, iv A_138.n, str A_138.text]]) rfl) <| jI 6 rfl (jb (v := mv x_136 m_137) rfl rfl) <| jI 7 rfl (jb (v := .agg #[iv A_138.code, iv A_138.n, str A_138.text]) rfl rfl) <| jQ (i := 10) ?_
      refine kF rfl (jm 4 x_136 m_137 rfl rfl rfl rfl) ?_
      rintro _ _ rfl
      refine jQ (i := 11) ?_
      refine jx rfl (jT 3 (vs := [iv A_138.code, iv A_138.n, str A_138.text]) (cs' := [iv A_138.code, iv A_138.n, str A_138.text]) rfl rfl rfl rfl kr rfl rfl (lb rfl) rfl) ?_
      rintro _ _ rfl
      refine jB <| jC <| jr [bk b_127 45 [iv A_138.code, iv A_138.n, str A_138.text], mb b_102 x_136 m_137] 7 mixed (by simp) <| jI 0 rfl (jJ fo99_0 rfl) <| jh 1 rfl (jV 1 (v := .slice x_136.a0 m_137.s.length x_136.c0) rfl rfl gY rfl) <| jh 2 rfl (jX 0 (vs := [iv A_138.code, iv A_138.n, str A_138.text]) rfl rfl gA kr rfl rfl) <| jI 3 rfl (jJ fo99_1 rfl) <| jh 4 rfl (jX 1 (vs := [.slice x_136.a1 m_137.r.length x_136.c1, .slice x_136.a2 m_137.w.length x_136.c2]) rfl rfl gL kx rfl rfl) <| jI 5 rfl (jG (v := .slice x_136.a0 m_137.s.length x_136.c0) rfl) <| jQ (i := 6) ?_
      refine jY rfl rfl (jT 6 (vs := [iv A_138.code, iv A_138.n, str A_138.text]) (cs' := [iv A_138.code, iv A_138.n, str A_138.text]) rfl rfl rfl rfl kr rfl rfl (lb rfl) rfl) ?_
      rintro _ _ rfl
      refine ⟨(by simp), ?_⟩
      refine jQ (i := 7) ?_
      refine jx rfl (jT 5 (vs := [.slice x_136.a1 m_137.r.length x_136.c1, .slice x_136.a2 m_137.w.length x_136.c2]) (cs' := [.slice x_136.a1 m_137.r.length x_136.c1, .slice x_136.a2 m_137.w.length x_136.c2]) rfl rfl rfl rfl kx rfl rfl (lb rfl) rfl) ?_
      rintro _ _ rfl
      refine jB <| jL <| ka (.inl rfl) rfl (jN (v := .slice x_136.a0 m_137.s.length x_136.c0) rfl) (je (jX 6 (vs := [iv A_138.code, iv A_138.n, str A_138.text]) rfl rfl gA kr rfl rfl) ⟨_, rfl⟩) (je (jX 5 (vs := [.slice x_136.a1 m_137.r.length x_136.c1, .slice x_136.a2 m_137.w.length x_136.c2]) rfl rfl gL kx rfl rfl) ⟨_, rfl⟩) (tS 3 _) ?_
      subst e_111
      exact ⟨x_136, m_137, A_138, e_134, (k_135.mono (by omega) (by omega)), (by (try dsimp only); omega), rfl, rfl⟩
    refine jY rfl rfl (jn (z := .agg #[iv 0, iv 0, str []]) (cs := [iv 0, iv 0, str []]) gG rfl) ?_
    rintro _ _ ⟨b_140, rfl, rfl⟩
    refine ⟨(by simp), ?_⟩
    refine jQ (i := 1) ?_
    refine jY rfl rfl (jM [] Tryz.call54 rfl (D_machOfB sa sc s (by first | omega | simp) hO) rfl (fun w hw => hw.seeOut_ hs_sa nM)) ?_
    rintro _ _ ⟨_, ⟨x_145, m_146, e_148, k_147, rfl, rfl⟩, rfl⟩
    refine ⟨(by simp), ?_⟩
    refine jQ (i := 4) ?_
    refine jY rfl rfl (jM [0, 0, 0] Tryz.call94 rfl (M_do x_145 m_146 k_147 (by omega) (by omega) proc c (by omega) hc) rfl (fun _ _ => trivial)) ?_
    rintro _ _ ⟨_, ⟨x_157, m_158, A_159, e_155, k_156, f_160, rfl, rfl⟩, rfl⟩
    refine ⟨(by simp), ?_⟩
    refine jI 5 rfl (jF (v := .tuple #[mv x_157 m_158, .agg #[iv A_159.code, iv A_159.n, str A_159.text]]) rfl) <| jI 6 rfl (jb (v := mv x_157 m_158) rfl rfl) <| jI 7 rfl (jb (v := .agg #[iv A_159.code, iv A_159.n, str A_159.text]) rfl rfl) <| jQ (i := 10) ?_
    refine kF rfl (jm 4 x_157 m_158 rfl rfl rfl rfl) ?_
    rintro _ _ rfl
    refine jQ (i := 11) ?_
    refine jx rfl (jT 3 (vs := [iv A_159.code, iv A_159.n, str A_159.text]) (cs' := [iv A_159.code, iv A_159.n, str A_159.text]) rfl rfl rfl rfl kr rfl rfl (lb rfl) rfl) ?_
    rintro _ _ rfl
    refine jB <| jC <| jr [bk b_140 45 [iv A_159.code, iv A_159.n, str A_159.text], mb b_102 x_157 m_158] 7 mixed (by simp) <| jI 0 rfl (jJ fo99_0 rfl) <| jh 1 rfl (jV 1 (v := .slice x_157.a0 m_158.s.length x_157.c0) rfl rfl gY rfl) <| jh 2 rfl (jX 0 (vs := [iv A_159.code, iv A_159.n, str A_159.text]) rfl rfl gA kr rfl rfl) <| jI 3 rfl (jJ fo99_1 rfl) <| jh 4 rfl (jX 1 (vs := [.slice x_157.a1 m_158.r.length x_157.c1, .slice x_157.a2 m_158.w.length x_157.c2]) rfl rfl gL kx rfl rfl) <| jI 5 rfl (jG (v := .slice x_157.a0 m_158.s.length x_157.c0) rfl) <| jQ (i := 6) ?_
    refine jY rfl rfl (jT 6 (vs := [iv A_159.code, iv A_159.n, str A_159.text]) (cs' := [iv A_159.code, iv A_159.n, str A_159.text]) rfl rfl rfl rfl kr rfl rfl (lb rfl) rfl) ?_
    rintro _ _ rfl
    refine ⟨(by simp), ?_⟩
    refine jQ (i := 7) ?_
    refine jx rfl (jT 5 (vs := [.slice x_157.a1 m_158.r.length x_157.c1, .slice x_157.a2 m_158.w.length x_157.c2]) (cs' := [.slice x_157.a1 m_158.r.length x_157.c1, .slice x_157.a2 m_158.w.length x_157.c2]) rfl rfl rfl rfl kx rfl rfl (lb rfl) rfl) ?_
    rintro _ _ rfl
    refine jB <| jL <| ka (.inl rfl) rfl (jN (v := .slice x_157.a0 m_158.s.length x_157.c0) rfl) (je (jX 6 (vs := [iv A_159.code, iv A_159.n, str A_159.text]) rfl rfl gA kr rfl rfl) ⟨_, rfl⟩) (je (jX 5 (vs := [.slice x_157.a1 m_158.r.length x_157.c1, .slice x_157.a2 m_158.w.length x_157.c2]) rfl rfl gL kx rfl rfl) ⟨_, rfl⟩) (tS 3 _) ?_
    subst e_148
    exact ⟨x_157, m_158, A_159, e_155, (k_156.mono (by omega) (by omega)), (by (try dsimp only); omega), rfl, rfl⟩
  refine jY rfl rfl (jn (z := .agg #[iv 0, iv 0, str []]) (cs := [iv 0, iv 0, str []]) gG rfl) ?_
  rintro _ _ ⟨b_161, rfl, rfl⟩
  refine ⟨(by simp), ?_⟩
  refine kX (i := 1) (j := 8) (by kernel_rfl) ?_ ?_
  · refine jY rfl rfl (jM [] Tryz.call54 rfl (D_machOfB sa sc s (by first | omega | simp) hO) rfl (fun w hw => hw.seeOut_ hs_sa nM)) ?_
    rintro _ _ ⟨_, ⟨x_167, m_168, e_170, k_169, rfl, rfl⟩, rfl⟩
    refine ⟨(by simp), ?_⟩
    refine kX (i := 4) (j := 8) (by kernel_rfl) ?_ ?_
    · refine jY rfl rfl (jM [0, 0, 0] Tryz.call94 rfl (M_do x_167 m_168 k_169 (by omega) (by omega) proc c (by omega) hc) rfl (fun _ _ => trivial)) ?_
      rintro _ _ ⟨_, ⟨x_180, m_181, A_182, e_178, k_179, f_183, rfl, rfl⟩, rfl⟩
      refine ⟨(by simp), ?_⟩
      refine jI 5 rfl (jF (v := .tuple #[mv x_180 m_181, .agg #[iv A_182.code, iv A_182.n, str A_182.text]]) rfl) <| jI 6 rfl (jb (v := mv x_180 m_181) rfl rfl) <| jI 7 rfl (jb (v := .agg #[iv A_182.code, iv A_182.n, str A_182.text]) rfl rfl) <| jQ (i := 8) ?_
      refine jY rfl rfl (jn (z := zM) (cs := zC) gI rfl) ?_
      rintro _ _ ⟨b_185, rfl, rfl⟩
      refine ⟨(by simp), ?_⟩
      refine jQ (i := 10) ?_
      refine kF rfl (jm 0 x_180 m_181 rfl rfl rfl rfl) ?_
      rintro _ _ rfl
      refine jQ (i := 11) ?_
      refine jx rfl (jT 4 (vs := [iv A_182.code, iv A_182.n, str A_182.text]) (cs' := [iv A_182.code, iv A_182.n, str A_182.text]) rfl rfl rfl rfl kr rfl rfl (lb rfl) rfl) ?_
      rintro _ _ rfl
      refine jB <| jC <| jr [mb b_185 x_180 m_181, bk b_161 45 [iv A_182.code, iv A_182.n, str A_182.text]] 7 mixed (by simp) <| jI 0 rfl (jJ fo99_0 rfl) <| jh 1 rfl (jV 0 (v := .slice x_180.a0 m_181.s.length x_180.c0) rfl rfl gY rfl) <| jh 2 rfl (jX 1 (vs := [iv A_182.code, iv A_182.n, str A_182.text]) rfl rfl gA kr rfl rfl) <| jI 3 rfl (jJ fo99_1 rfl) <| jh 4 rfl (jX 0 (vs := [.slice x_180.a1 m_181.r.length x_180.c1, .slice x_180.a2 m_181.w.length x_180.c2]) rfl rfl gL kx rfl rfl) <| jI 5 rfl (jG (v := .slice x_180.a0 m_181.s.length x_180.c0) rfl) <| jQ (i := 6) ?_
      refine jY rfl rfl (jT 6 (vs := [iv A_182.code, iv A_182.n, str A_182.text]) (cs' := [iv A_182.code, iv A_182.n, str A_182.text]) rfl rfl rfl rfl kr rfl rfl (lb rfl) rfl) ?_
      rintro _ _ rfl
      refine ⟨(by simp), ?_⟩
      refine jQ (i := 7) ?_
      refine jx rfl (jT 5 (vs := [.slice x_180.a1 m_181.r.length x_180.c1, .slice x_180.a2 m_181.w.length x_180.c2]) (cs' := [.slice x_180.a1 m_181.r.length x_180.c1, .slice x_180.a2 m_181.w.length x_180.c2]) rfl rfl rfl rfl kx rfl rfl (lb rfl) rfl) ?_
      rintro _ _ rfl
      refine jB <| jL <| kR (pick_perm [1, 1, 1] (A := [rC x_180.a0 x_180.c0 m_181.s, rS x_180.a1 x_180.c1 m_181.r, rS x_180.a2 x_180.c2 m_181.w]) (F := [mb b_185 x_180 m_181, bk b_161 45 [iv A_182.code, iv A_182.n, str A_182.text], bk b_3 28 [.slice x_180.a1 m_181.r.length x_180.c1, .slice x_180.a2 m_181.w.length x_180.c2], bk b_2 45 [iv A_182.code, iv A_182.n, str A_182.text], bk b_1 51 [iv c.kind, str c.name, str c.to_, iv c.a, iv c.b, str c.text]]) rfl).symm <| ka (.inl rfl) rfl (jN (v := .slice x_180.a0 m_181.s.length x_180.c0) rfl) (je (jX 6 (vs := [iv A_182.code, iv A_182.n, str A_182.text]) rfl rfl gA kr rfl rfl) ⟨_, rfl⟩) (je (jX 5 (vs := [.slice x_180.a1 m_181.r.length x_180.c1, .slice x_180.a2 m_181.w.length x_180.c2]) rfl rfl gL kx rfl rfl) ⟨_, rfl⟩) (tS 3 _) ?_
      subst e_170
      exact ⟨x_180, m_181, A_182, e_178, (k_179.mono (by omega) (by omega)), (by (try dsimp only); omega), rfl, rfl⟩
    refine jY rfl rfl (jn (z := zM) (cs := zC) gI rfl) ?_
    rintro _ _ ⟨b_186, rfl, rfl⟩
    refine ⟨(by simp), ?_⟩
    refine jQ (i := 4) ?_
    refine jY rfl rfl (jM [1, 1, 1] Tryz.call94 rfl (M_do x_167 m_168 k_169 (by omega) (by omega) proc c (by omega) hc) rfl (fun _ _ => trivial)) ?_
    rintro _ _ ⟨_, ⟨x_195, m_196, A_197, e_193, k_194, f_198, rfl, rfl⟩, rfl⟩
    refine ⟨(by simp), ?_⟩
    refine jI 5 rfl (jF (v := .tuple #[mv x_195 m_196, .agg #[iv A_197.code, iv A_197.n, str A_197.text]]) rfl) <| jI 6 rfl (jb (v := mv x_195 m_196) rfl rfl) <| jI 7 rfl (jb (v := .agg #[iv A_197.code, iv A_197.n, str A_197.text]) rfl rfl) <| jQ (i := 10) ?_
    refine kF rfl (jm 3 x_195 m_196 rfl rfl rfl rfl) ?_
    rintro _ _ rfl
    refine jQ (i := 11) ?_
    refine jx rfl (jT 4 (vs := [iv A_197.code, iv A_197.n, str A_197.text]) (cs' := [iv A_197.code, iv A_197.n, str A_197.text]) rfl rfl rfl rfl kr rfl rfl (lb rfl) rfl) ?_
    rintro _ _ rfl
    refine jB <| jC <| jr [mb b_186 x_195 m_196, bk b_161 45 [iv A_197.code, iv A_197.n, str A_197.text]] 7 mixed (by simp) <| jI 0 rfl (jJ fo99_0 rfl) <| jh 1 rfl (jV 0 (v := .slice x_195.a0 m_196.s.length x_195.c0) rfl rfl gY rfl) <| jh 2 rfl (jX 1 (vs := [iv A_197.code, iv A_197.n, str A_197.text]) rfl rfl gA kr rfl rfl) <| jI 3 rfl (jJ fo99_1 rfl) <| jh 4 rfl (jX 0 (vs := [.slice x_195.a1 m_196.r.length x_195.c1, .slice x_195.a2 m_196.w.length x_195.c2]) rfl rfl gL kx rfl rfl) <| jI 5 rfl (jG (v := .slice x_195.a0 m_196.s.length x_195.c0) rfl) <| jQ (i := 6) ?_
    refine jY rfl rfl (jT 6 (vs := [iv A_197.code, iv A_197.n, str A_197.text]) (cs' := [iv A_197.code, iv A_197.n, str A_197.text]) rfl rfl rfl rfl kr rfl rfl (lb rfl) rfl) ?_
    rintro _ _ rfl
    refine ⟨(by simp), ?_⟩
    refine jQ (i := 7) ?_
    refine jx rfl (jT 5 (vs := [.slice x_195.a1 m_196.r.length x_195.c1, .slice x_195.a2 m_196.w.length x_195.c2]) (cs' := [.slice x_195.a1 m_196.r.length x_195.c1, .slice x_195.a2 m_196.w.length x_195.c2]) rfl rfl rfl rfl kx rfl rfl (lb rfl) rfl) ?_
    rintro _ _ rfl
    refine jB <| jL <| ka (.inl rfl) rfl (jN (v := .slice x_195.a0 m_196.s.length x_195.c0) rfl) (je (jX 6 (vs := [iv A_197.code, iv A_197.n, str A_197.text]) rfl rfl gA kr rfl rfl) ⟨_, rfl⟩) (je (jX 5 (vs := [.slice x_195.a1 m_196.r.length x_195.c1, .slice x_195.a2 m_196.w.length x_195.c2]) rfl rfl gL kx rfl rfl) ⟨_, rfl⟩) (tS 3 _) ?_
    subst e_170
    exact ⟨x_195, m_196, A_197, e_193, (k_194.mono (by omega) (by omega)), (by (try dsimp only); omega), rfl, rfl⟩
  refine jY rfl rfl (jn (z := zM) (cs := zC) gI rfl) ?_
  rintro _ _ ⟨b_199, rfl, rfl⟩
  refine ⟨(by simp), ?_⟩
  refine jQ (i := 1) ?_
  refine jY rfl rfl (jM [] Tryz.call54 rfl (D_machOfB sa sc s (by first | omega | simp) hO) rfl (fun w hw => hw.seeOut_ hs_sa nM)) ?_
  rintro _ _ ⟨_, ⟨x_204, m_205, e_207, k_206, rfl, rfl⟩, rfl⟩
  refine ⟨(by simp), ?_⟩
  refine jQ (i := 4) ?_
  refine jY rfl rfl (jM [0, 0, 0] Tryz.call94 rfl (M_do x_204 m_205 k_206 (by omega) (by omega) proc c (by omega) hc) rfl (fun _ _ => trivial)) ?_
  rintro _ _ ⟨_, ⟨x_216, m_217, A_218, e_214, k_215, f_219, rfl, rfl⟩, rfl⟩
  refine ⟨(by simp), ?_⟩
  refine jI 5 rfl (jF (v := .tuple #[mv x_216 m_217, .agg #[iv A_218.code, iv A_218.n, str A_218.text]]) rfl) <| jI 6 rfl (jb (v := mv x_216 m_217) rfl rfl) <| jI 7 rfl (jb (v := .agg #[iv A_218.code, iv A_218.n, str A_218.text]) rfl rfl) <| jQ (i := 10) ?_
  refine kF rfl (jm 3 x_216 m_217 rfl rfl rfl rfl) ?_
  rintro _ _ rfl
  refine jQ (i := 11) ?_
  refine jx rfl (jT 4 (vs := [iv A_218.code, iv A_218.n, str A_218.text]) (cs' := [iv A_218.code, iv A_218.n, str A_218.text]) rfl rfl rfl rfl kr rfl rfl (lb rfl) rfl) ?_
  rintro _ _ rfl
  refine jB <| jC <| jr [mb b_199 x_216 m_217, bk b_161 45 [iv A_218.code, iv A_218.n, str A_218.text]] 7 mixed (by simp) <| jI 0 rfl (jJ fo99_0 rfl) <| jh 1 rfl (jV 0 (v := .slice x_216.a0 m_217.s.length x_216.c0) rfl rfl gY rfl) <| jh 2 rfl (jX 1 (vs := [iv A_218.code, iv A_218.n, str A_218.text]) rfl rfl gA kr rfl rfl) <| jI 3 rfl (jJ fo99_1 rfl) <| jh 4 rfl (jX 0 (vs := [.slice x_216.a1 m_217.r.length x_216.c1, .slice x_216.a2 m_217.w.length x_216.c2]) rfl rfl gL kx rfl rfl) <| jI 5 rfl (jG (v := .slice x_216.a0 m_217.s.length x_216.c0) rfl) <| jQ (i := 6) ?_
  refine jY rfl rfl (jT 6 (vs := [iv A_218.code, iv A_218.n, str A_218.text]) (cs' := [iv A_218.code, iv A_218.n, str A_218.text]) rfl rfl rfl rfl kr rfl rfl (lb rfl) rfl) ?_
  rintro _ _ rfl
  refine ⟨(by simp), ?_⟩
  refine jQ (i := 7) ?_
  refine jx rfl (jT 5 (vs := [.slice x_216.a1 m_217.r.length x_216.c1, .slice x_216.a2 m_217.w.length x_216.c2]) (cs' := [.slice x_216.a1 m_217.r.length x_216.c1, .slice x_216.a2 m_217.w.length x_216.c2]) rfl rfl rfl rfl kx rfl rfl (lb rfl) rfl) ?_
  rintro _ _ rfl
  refine jB <| jL <| ka (.inl rfl) rfl (jN (v := .slice x_216.a0 m_217.s.length x_216.c0) rfl) (je (jX 6 (vs := [iv A_218.code, iv A_218.n, str A_218.text]) rfl rfl gA kr rfl rfl) ⟨_, rfl⟩) (je (jX 5 (vs := [.slice x_216.a1 m_217.r.length x_216.c1, .slice x_216.a2 m_217.w.length x_216.c2]) rfl rfl gL kx rfl rfl) ⟨_, rfl⟩) (tS 3 _) ?_
  subst e_207
  exact ⟨x_216, m_217, A_218, e_214, (k_215.mono (by omega) (by omega)), (by (try dsimp only); omega), rfl, rfl⟩

theorem D_boot  :
    Ct Tryz.prog 21 [] [] (fun _ => True) (fun v A' => ∃ r0a r0c r0, bootS = r0 ∧ (okC' 3 1048576 r0) ∧ v = .slice r0a r0.length r0c ∧ A' = [rC r0a r0c r0]) := by
  refine Ct.intro Tryz.func21 rfl Tryz.ntmps21 (lb rfl) fun w0 hpre => ?_
  refine jC <| jE <| jA (jG (v := .slice none 0 0) rfl) <| jD <| jB <| jC <| jE ?_
  refine jH rfl (kJ (ps := []) (cur := #[]) gC gJ gn rfl (by kernel_rfl) (by decide) (by decide)) ?_
  rintro _ _ ⟨a_1, rfl, rfl⟩
  refine jH rfl (jM [] Tryz.call54 rfl (D_machOf a_1 0 ([] : List Cell) (by first | omega | simp) 0 ⟨by simp, fun c hc => by cases hc⟩) rfl (fun w hw => hw.see (i := 0) rfl)) ?_
  rintro _ _ ⟨_, ⟨x_2, m_3, e_5, k_4, rfl, rfl⟩, rfl⟩
  refine jH rfl (jM [0, 0, 0] Tryz.call53 rfl (M_spawn x_2 m_3 k_4 (by omega) (by omega) 0 (by omega)) rfl (fun _ _ => trivial)) ?_
  rintro _ _ ⟨_, ⟨x_8, m_9, n_10, n_12, e_6, k_7, f_11, f_13, rfl, rfl⟩, rfl⟩
  refine jA (jF (v := .tuple #[mv x_8 m_9, iv n_10, iv n_12]) rfl) <| jA (jb (v := mv x_8 m_9) rfl rfl) <| jA (jb (v := iv n_10) rfl rfl) <| jA (jb (v := iv n_12) rfl rfl) ?_
  refine jH rfl (jn (z := zM) (cs := zC) gI rfl) ?_
  rintro _ _ ⟨b_14, rfl, rfl⟩
  refine jH rfl (jm 0 x_8 m_9 rfl rfl rfl rfl) ?_
  rintro _ _ rfl
  refine jA (jG (v := iv n_10) rfl) <| jA (jG (v := iv n_12) rfl) <| jD <| jB <| jC <| jE <| jA (jJ fo99_0 rfl) <| jK (jV 0 (v := .slice x_8.a0 m_9.s.length x_8.c0) rfl rfl gY rfl) <| jA (jG (v := .slice x_8.a0 m_9.s.length x_8.c0) rfl) <| jD ?_
  refine jB <| jL <| kR (pick_perm [1] (A := [rC x_8.a0 x_8.c0 m_9.s]) (F := [mb b_14 x_8 m_9, rS x_8.a1 x_8.c1 m_9.r, rS x_8.a2 x_8.c2 m_9.w, Res.row (.slice a_1 0 0) 167 2 0 (([] : List Cell).flatMap encC)]) rfl).symm <| jR (.inl rfl) rfl (jN (v := .slice x_8.a0 m_9.s.length x_8.c0) rfl) (tS 1 _) ?_
  exact ⟨x_8.a0, x_8.c0, m_9.s, (by subst e_5; unfold bootS; rw [show ((⟨[], [], []⟩ : MS).spawn 0) = _ from e_6]), (k_7.okC'.mono (by omega)), rfl, rfl⟩

theorem D_store6 (qb : Nat) (qa : Option Addr) (qc : Nat) (ql : Str) (qp : Nat) (qs : Int) (hql : ql.length ≤ 1048576) (hqp : qp ≤ ql.length) (n : Int) (hn : -9223372036854775808 ≤ n ∧ n ≤ 9223372036854775807) (hn6 : n ≤ 6) :
    Ct Tryz.prog 144 [.pointer (some ⟨qb, 0, none⟩), .int .i64 n] [cb qb qa qc ql qp qs] (fun w => seesC w qa qc ql [cb qb qa qc ql qp qs]) (fun v A' => ∃ qp' qs' r0a r0c r0, qp' ≤ ql.length ∧ (okC' 10935 1048576 r0) ∧ v = .slice r0a r0.length r0c ∧ A' = cb qb qa qc ql qp' qs' :: [rC r0a r0c r0]) := by
  refine Ct.intro Tryz.func144 rfl Tryz.ntmps144 (lb rfl) fun w0 hpre => ?_
  have hs_qa : Sees w0 _ _ _ _ := hpre.1
  refine jC <| jE <| jA (jG (v := .slice none 0 0) rfl) <| jD <| jB <| jC <| jE ?_
  refine jH rfl (jM [] Tryz.call21 rfl (D_boot) rfl (fun _ _ => trivial)) ?_
  rintro _ _ ⟨_, ⟨l_1a, l_1c, l_1, e_3, f_2, rfl, rfl⟩, rfl⟩
  refine jA (jG (v := .slice l_1a l_1.length l_1c) rfl) <| jD <| jB <| jC <| jC <| jE <| jA (jG (v := iv 0) rfl) <| jD <| jB <| jg ?_
  refine kC (fun k_ e_ L_ => ∃ i_ : Nat, ∃ p_q : Nat, ∃ s_q : Int, ∃ o_a : Option Addr, ∃ o_c : Nat, ∃ o_ : List Cell, (p_q ≤ ql.length) ∧ (i_ ≤ 6) ∧ (okC' (15 * 3 ^ i_ - 10) 1048576 o_) ∧ e_ 0 = .pointer (some ⟨qb, 0, none⟩) ∧ e_ 1 = iv n ∧ e_ 4 = .slice none 0 0 ∧ e_ 5 = .slice o_a o_.length o_c ∧ e_ 6 = nv i_ ∧ L_ = [rC o_a o_c o_, cb qb qa qc ql p_q s_q] ∧ k_ = 7 - i_) _ ⟨0, qp, qs, l_1a, l_1c, l_1, (by omega), (by omega), (f_2.mono (by decide)), rfl, rfl, rfl, rfl, rfl, rfl, rfl⟩ ?_
  rintro _ e_4 _ ⟨i_, p_q, s_q, o_a, o_c, o_, hpq_, hi, hO, he_5, he_6, he_7, he_8, he_9, rfl, rfl⟩
  refine jC <| jC <| jE <| jA (jF (v := nv i_) he_9) <| jA (jF (v := .pointer (some ⟨qb, 0, none⟩)) he_5) <| jA (jF (v := iv n) he_6) <| jA (ji (c := n + 1) rfl rfl (wr (by omega))) ?_
  refine jH rfl (jM [1] Tryz.call33 rfl (D_below qb qa qc ql p_q s_q (by omega) (by omega) (n + 1) (by omega)) rfl (fun w hw => ⟨hw.seeOut_ hs_qa (hpre.2), hw.apart hs_qa (hpre.2) (by simp)⟩)) ?_
  rintro _ _ ⟨_, ⟨qp_10, qs_11, n_13, fq_12, f_14, rfl, rfl⟩, rfl⟩
  refine jA (jo rfl rfl) <| jD <| jB ?_
  by_cases h_16 : ((i_ : Nat) : Int) < ((n_13 : Nat) : Int)
  · have hp3 : 3 ^ i_ ≤ 3 ^ 5 := Nat.pow_le_pow_right (by decide) (by omega)
    have hp3p : 1 ≤ 3 ^ i_ := Nat.pos_of_ne_zero (by simp)
    have hp3s : 3 ^ (i_ + 1) = 3 * 3 ^ i_ := by rw [Nat.pow_succ]; omega
    refine jO (cB (dT h_16)) <| jU <| jB <| jC <| jg <| jE <| jA (jF (v := .slice o_a o_.length o_c) he_8) <| jA (jF (v := .pointer (some ⟨qb, 0, none⟩)) he_5) ?_
    refine jH rfl (jM [0] Tryz.call33 rfl (D_below qb qa qc ql qp_10 qs_11 (by omega) (by omega) 2 (by omega)) rfl (fun w hw => ⟨hw.seeOut_ hs_qa (hpre.2), hw.apart hs_qa (hpre.2) (by simp)⟩)) ?_
    rintro _ _ ⟨_, ⟨qp_17, qs_18, n_20, fq_19, f_21, rfl, rfl⟩, rfl⟩
    refine jA (ji (c := ((1 + n_20 : Nat) : Int)) rfl rfl (wr (by omega))) <| jA (jF (v := .pointer (some ⟨qb, 0, none⟩)) he_5) ?_
    refine jH rfl (jM [0] Tryz.call202 rfl (D_call13 qb qa qc ql qp_17 qs_18 (by omega) (by omega)) rfl (fun w hw => ⟨hw.seeOut_ hs_qa (hpre.2), hw.apart hs_qa (hpre.2) (by simp)⟩)) ?_
    rintro _ _ ⟨_, ⟨qp_23, qs_24, C_26, fq_25, f_27, rfl, rfl⟩, rfl⟩
    obtain ⟨f_271, f_272, f_273, f_274, f_275, f_276⟩ := id f_27
    refine jH rfl (jM [] Tryz.call50 rfl (D_callOn o_a o_c o_ ((1 + n_20 : Nat) : Int) C_26 (by have hl_ := (hO).1; omega) (by omega) f_27 hO (by omega)) rfl (fun w hw => hw.see (i := 1) rfl)) ?_
    rintro _ _ ⟨_, ⟨x_29, m_30, A_31, e_32, k_33, f_34, rfl, rfl⟩, rfl⟩
    refine jA (jF (v := .tuple #[.slice x_29.a0 m_30.s.length x_29.c0, .agg #[iv A_31.code, iv A_31.n, str A_31.text], .agg #[.slice x_29.a1 m_30.r.length x_29.c1, .slice x_29.a2 m_30.w.length x_29.c2]]) rfl) <| jA (jb (v := .slice x_29.a0 m_30.s.length x_29.c0) rfl rfl) <| jA (jb (v := .agg #[iv A_31.code, iv A_31.n, str A_31.text]) rfl rfl) <| jA (jb (v := .agg #[.slice x_29.a1 m_30.r.length x_29.c1, .slice x_29.a2 m_30.w.length x_29.c2]) rfl rfl) <| jA (jG (v := .slice x_29.a0 m_30.s.length x_29.c0) rfl) <| jD <| jk <| jB <| jE <| jA (jF (v := nv i_) he_9) ?_
    refine jA (ji (c := ((i_ + 1 : Nat) : Int)) rfl rfl (wr (by omega))) <| jA (jG (v := iv ((i_ + 1 : Nat) : Int)) rfl) <| jD <| kH [0, 2] (A := [rC x_29.a0 x_29.c0 m_30.s, cb qb qa qc ql qp_23 qs_24]) rfl ?_
    refine ju (7 - (i_ + 1)) (by omega) ⟨(i_ + 1), qp_23, qs_24, x_29.a0, x_29.c0, m_30.s, (by omega), (by omega), (k_33.okC'.mono (by omega)), he_5, he_6, he_7, rfl, rfl, rfl, rfl⟩
  have hp3 : 3 ^ i_ ≤ 3 ^ 6 := Nat.pow_le_pow_right (by decide) (by omega)
  have hp3p : 1 ≤ 3 ^ i_ := Nat.pos_of_ne_zero (by simp)
  have hp3s : 3 ^ (i_ + 1) = 3 * 3 ^ i_ := by rw [Nat.pow_succ]; omega
  refine jP (cB (dF h_16)) <| jz <| jj <| jj <| kA <| jB <| jC <| jE <| jA (jF (v := .slice o_a o_.length o_c) he_8) <| jA (jG (v := .slice o_a o_.length o_c) rfl) ?_
  refine jD <| jB <| jL <| jR (.inl rfl) rfl (jN (v := .slice o_a o_.length o_c) rfl) (List.Sublist.refl _) ?_
  exact ⟨qp_10, qs_11, o_a, o_c, o_, (by omega), (hO.mono (by omega)), rfl, rfl⟩

end Go.Proofs.YtghfijncihbojaaGreat

set_option linter.unusedSimpArgs false
set_option linter.unusedVariables false
set_option linter.unnecessarySimpa false
namespace Go.Proofs.YtghfijncihbojaaGreat
open Go Go.RowKit
/-- How great a store is at most behind so many calls; how many keys they touch. -/
def grow (S : Nat) : Nat → Nat
  | 0 => S
  | j + 1 => 3 * grow S j + 20
def growT (S T : Nat) : Nat → Nat
  | 0 => T
  | j + 1 => growT S T j + 7 * grow S j + 200
theorem grow_step (S j : Nat) : grow S (j + 1) = 3 * grow S j + 20 := rfl
theorem growT_step (S T j : Nat) : growT S T (j + 1) = growT S T j + 7 * grow S j + 200 := rfl
theorem grow_le (S : Nat) {i j : Nat} (h : i ≤ j) : grow S i ≤ grow S j := by
  induction h with
  | refl => exact Nat.le_refl _
  | step _ ih => rw [grow_step]; omega
theorem growT_le (S T : Nat) {i j : Nat} (h : i ≤ j) : growT S T i ≤ growT S T j := by
  induction h with
  | refl => exact Nat.le_refl _
  | step _ ih => rw [growT_step]; omega
theorem foldSpan_len : ∀ (l r : List Str), (l.foldl addSpan r).length ≤ r.length + l.length
  | [], r => Nat.le_refl _
  | x :: l, r => by
    have h1 := foldSpan_len l (addSpan r x)
    have h2 := addSpan_len r x
    simp only [List.foldl_cons, List.length_cons] at *
    omega
/-- The steps done one by one on a store: what they told, and what they touched. -/
def runL : List Cell → List AN → List Str → List Str → List SP → List Cell × List AN × List Str × List Str
  | s, o, r, w, [] => (s, o, r, w)
  | s, o, r, w, p :: l => runL ((⟨s, [], []⟩ : MS).doCall p.proc p.call).1.s (o ++ [((⟨s, [], []⟩ : MS).doCall p.proc p.call).2]) (((⟨s, [], []⟩ : MS).doCall p.proc p.call).1.r.foldl addSpan r) (((⟨s, [], []⟩ : MS).doCall p.proc p.call).1.w.foldl addSpan w) l
theorem runL_step {s : List Cell} {m1 : MS} {a : AN} {l : List SP} {o : List AN} {r w : List Str} {j : Nat} (hj : j < l.length) (e : (⟨s, [], []⟩ : MS).doCall (l.getD j p0_).proc (l.getD j p0_).call = (m1, a)) : runL s o r w (l.drop j) = runL m1.s (o ++ [a]) (m1.r.foldl addSpan r) (m1.w.foldl addSpan w) (l.drop (j + 1)) := by
  rw [drop_at (getD_some (d := p0_) hj), runL, e]
/-- Calls in range. -/
def okSteps (l : List SP) : Prop := ∀ j, j < l.length → (l.getD j p0_).call.ok 1048576 ∧ -9223372036854775808 ≤ (l.getD j p0_).proc ∧ (l.getD j p0_).proc ≤ 9223372036854775807
def stepsOf (t : TD) : List SP := t.calls.map fun c => ⟨t.proc, c⟩
def viewL (s : List Cell) (t : TD) : List Cell := (runL s [] [] [] (stepsOf t)).1
/-- A call asked within a transaction that sees this store. -/
def TD.askV (v : List Cell) (t : TD) (c : CL) : TD × AN :=
  if ¬ t.state = 1 then (t, ⟨2, 0, []⟩) else if 12 ≤ t.calls.length then (t, ⟨3, 0, []⟩) else
    ({ t with calls := t.calls ++ [c], ans := t.ans ++ [((⟨v, [], []⟩ : MS).doCall t.proc c).2], rd := ((⟨v, [], []⟩ : MS).doCall t.proc c).1.r.foldl addSpan t.rd, wr := ((⟨v, [], []⟩ : MS).doCall t.proc c).1.w.foldl addSpan t.wr }, ((⟨v, [], []⟩ : MS).doCall t.proc c).2)
end Go.Proofs.YtghfijncihbojaaGreat

set_option linter.unusedSimpArgs false
set_option linter.unusedVariables false
set_option linter.unnecessarySimpa false
namespace Go.Proofs.YtghfijncihbojaaGreat
open Go Go.RowKit
attribute [local irreducible] JL JC JQ JO LO PO JA JX Ct

theorem D_run15 (sa : Option Addr) (sc : Nat) (s : List Cell) (stepsa : Option Addr) (stepsc : Nat) (steps : List SP) (hs : s.length ≤ 20000000) (hsteps : steps.length ≤ 20000000) {n : Nat} (hO0 : okC' n 1048576 s) (hn : n ≤ 20000000) (hP : okSteps steps) (hg : grow n steps.length ≤ 18000000) (hgT : growT n 0 steps.length ≤ 20000000) :
    Ct Tryz.prog 95 [.slice sa s.length sc, .slice stepsa steps.length stepsc] ([]) (fun w => Sees w (.slice sa s.length sc) 2 s.length (s.flatMap encC) ∧ Sees w (.slice stepsa steps.length stepsc) 7 steps.length (steps.flatMap encP)) (fun v A' => ∃ (sa : Option Addr) (sc : Nat) (s' : List Cell) (oa : Option Addr) (oc : Nat) (o : List AN) (ra : Option Addr) (rc : Nat) (r : List Str) (wa : Option Addr) (wc : Nat) (w : List Str), runL s [] [] [] steps = (s', o, r, w) ∧ okC' (grow n steps.length) 1048576 s' ∧ o.length = steps.length ∧ (r.length ≤ growT n 0 steps.length ∧ w.length ≤ growT n 0 steps.length) ∧ v = .tuple #[.slice sa s'.length sc, .slice oa o.length oc, .agg #[.slice ra r.length rc, .slice wa w.length wc]] ∧ A' = [rC sa sc s', Res.row (.slice oa o.length oc) 45 3 o.length (o.flatMap encA), rS ra rc r, rS wa wc w]) := by
  have hg0 : grow n 0 = n := rfl
  have hgT0 : growT n 0 0 = 0 := rfl
  refine Ct.intro Tryz.func95 rfl Tryz.ntmps95 (lb rfl) fun w0 hpre => ?_
  have hs_sa : Sees w0 _ _ _ _ := hpre.1
  have hs_stepsa : Sees w0 _ _ _ _ := hpre.2
  refine jC <| jE <| jA (jG (v := .slice none 0 0) rfl) <| jA (jG (v := .slice none 0 0) rfl) ?_
  refine jH rfl (jn (z := .agg #[.slice none 0 0, .slice none 0 0]) (cs := [.slice none 0 0, .slice none 0 0]) gU rfl) ?_
  rintro _ _ ⟨b_1, rfl, rfl⟩
  refine jD <| jB <| jC <| jE ?_
  refine jH rfl (kJ (ps := []) (cur := #[]) gC gJ gn rfl (by kernel_rfl) (by decide) (by decide)) ?_
  rintro _ _ ⟨a_2, rfl, rfl⟩
  refine jA (jF (v := .slice sa s.length sc) rfl) ?_
  refine jH rfl (kM 0 (q := s.length) (news := s.flatMap encC) (n' := s.length) (cs' := s.flatMap encC) rfl gC gC gq rfl (by' := 32) rfl rfl rfl rfl rfl (fun w hw => Src.sees (hw.seeOut_ hs_sa nM) (oneC _)) (by (try simp only [LE]); omega) (by (try simp only [LE]); omega) (by (try simp only [List.length_take, List.length_drop]); first | rfl | omega) rfl) ?_
  rintro _ _ ⟨a_3, c_4, rfl, rfl⟩
  refine jA (jG (v := .slice a_3 s.length c_4) rfl) <| jD <| jB <| jC <| jE ?_
  refine jH rfl (kJ (ps := []) (cur := #[]) gN kr gG rfl (by kernel_rfl) (by decide) (by decide)) ?_
  rintro _ _ ⟨a_5, rfl, rfl⟩
  refine jA (jG (v := .slice a_5 0 0) rfl) <| jD <| jB <| jC <| jE <| jA (kY (ps := []) (cs := [.slice none 0 0, .slice none 0 0]) rfl (by kernel_rfl)) ?_
  refine jH rfl (jn (z := .agg #[.slice none 0 0, .slice none 0 0]) (cs := [.slice none 0 0, .slice none 0 0]) gU rfl) ?_
  rintro _ _ ⟨b_6, rfl, rfl⟩
  refine jH rfl (jT 0 (vs := [.slice none 0 0, .slice none 0 0]) (cs' := [.slice none 0 0, .slice none 0 0]) rfl rfl rfl rfl kx rfl rfl (lb rfl) rfl) ?_
  rintro _ _ rfl
  refine jD <| jB <| jC <| jC <| JC.nilRow 9 1 <| JC.nilRow 9 1 <| jE <| jA (jG (v := iv 0) rfl) <| jD <| jB ?_
  refine jg <| kC (fun k_ e_ L_ => ∃ j_ : Nat, ∃ s_a : Option Addr, ∃ s_c : Nat, ∃ s_ : List Cell, ∃ o_a : Option Addr, ∃ o_c : Nat, ∃ o_ : List AN, ∃ r_a : Option Addr, ∃ r_c : Nat, ∃ r_ : List Str, ∃ w_a : Option Addr, ∃ w_c : Nat, ∃ w_ : List Str, (j_ ≤ steps.length) ∧ (okC' (grow n j_) 1048576 s_) ∧ (o_.length = j_) ∧ (r_.length ≤ growT n 0 j_) ∧ (w_.length ≤ growT n 0 j_) ∧ (runL s_ o_ r_ w_ (steps.drop j_) = runL s [] [] [] steps) ∧ e_ 0 = .slice s_a s_.length s_c ∧ e_ 1 = .slice stepsa steps.length stepsc ∧ e_ 4 = .slice none 0 0 ∧ e_ 5 = .slice none 0 0 ∧ e_ 6 = .pointer (some ⟨b_1, 0, none⟩) ∧ e_ 7 = .slice o_a o_.length o_c ∧ e_ 8 = .pointer (some ⟨b_6, 0, none⟩) ∧ e_ 9 = nv j_ ∧ L_ = [rS w_a w_c w_, rS r_a r_c r_, bk b_6 28 [.slice r_a r_.length r_c, .slice w_a w_.length w_c], Res.row (.slice o_a o_.length o_c) 45 3 o_.length (o_.flatMap encA), rC s_a s_c s_, bk b_1 28 [.slice none 0 0, .slice none 0 0]] ∧ k_ = steps.length + 1 - j_) _ ⟨0, a_3, c_4, s, a_5, 0, ([] : List AN), none, 0, ([] : List Str), none, 0, ([] : List Str), (by omega), hO0, (by rfl), (Nat.zero_le _), (Nat.zero_le _), rfl, rfl, rfl, rfl, rfl, rfl, rfl, rfl, rfl, rfl, rfl⟩ ?_
  rintro _ e_7 _ ⟨j_, s_a, s_c, s_, o_a, o_c, o_, r_a, r_c, r_, w_a, w_c, w_, hj, hO, hol, hr, hw_, hR, he_8, he_9, he_10, he_11, he_12, he_13, he_14, he_15, rfl, rfl⟩
  refine jC <| jC <| jE <| jA (jF (v := nv j_) he_15) <| jA (jF (v := .slice stepsa steps.length stepsc) he_9) <| jA (jp gT rfl) <| jA (jo rfl rfl) <| jD <| jB ?_
  by_cases h_16 : ((j_ : Nat) : Int) < ((steps.length : Nat) : Int)
  · have hlt : j_ < steps.length := by omega
    have hpj := hP j_ hlt
    have hpq := hpj.2
    have hgj := grow_le n (show j_ + 1 ≤ steps.length by omega)
    have hgT := growT_le n 0 (show j_ + 1 ≤ steps.length by omega)
    have hg1 := grow_step n j_
    have hg2 := growT_step n 0 j_
    refine jO (cB (dT h_16)) <| jU <| jB <| jC <| jg <| jC ?_
    refine JC.cut (fun e_ L_ => ∃ x_18 : MA, ∃ m_19 : MS, ∃ A_20 : AN, ∃ b_24 : Nat, ∃ b_25 : Nat, ((⟨s_, [], []⟩ : MS).doCall ((steps.getD j_ p0_).proc) (steps.getD j_ p0_).call = (m_19, A_20)) ∧ (m_19.ok (3 * (grow n j_) + 20) (7 * (grow n j_) + 200)) ∧ ((0 ≤ A_20.code ∧ A_20.code ≤ 9) ∧ (-1 ≤ A_20.n ∧ A_20.n ≤ 1000000000) ∧ A_20.text.length ≤ 30000000000000) ∧ e_ 0 = .slice s_a s_.length s_c ∧ e_ 1 = .slice stepsa steps.length stepsc ∧ e_ 4 = .slice none 0 0 ∧ e_ 5 = .slice none 0 0 ∧ e_ 6 = .pointer (some ⟨b_1, 0, none⟩) ∧ e_ 7 = .slice o_a o_.length o_c ∧ e_ 8 = .pointer (some ⟨b_6, 0, none⟩) ∧ e_ 9 = nv j_ ∧ e_ 10 = .slice x_18.a0 m_19.s.length x_18.c0 ∧ e_ 11 = .pointer (some ⟨b_24, 0, none⟩) ∧ e_ 12 = .pointer (some ⟨b_25, 0, none⟩) ∧ L_ = [bk b_25 28 [.slice x_18.a1 m_19.r.length x_18.c1, .slice x_18.a2 m_19.w.length x_18.c2], bk b_24 45 [iv A_20.code, iv A_20.n, str A_20.text], rC x_18.a0 x_18.c0 m_19.s, rS x_18.a1 x_18.c1 m_19.r, rS x_18.a2 x_18.c2 m_19.w, rS w_a w_c w_, rS r_a r_c r_, bk b_6 28 [.slice r_a r_.length r_c, .slice w_a w_.length w_c], Res.row (.slice o_a o_.length o_c) 45 3 o_.length (o_.flatMap encA), rC s_a s_c s_, bk b_1 28 [.slice none 0 0, .slice none 0 0]]) ?_ ?_
    · refine jr [] 18 mixed (by simp) <| jI 0 rfl (jF (v := .slice s_a s_.length s_c) he_8) <| jI 1 rfl (jF (v := .slice stepsa steps.length stepsc) he_9) <| jI 2 rfl (jF (v := nv j_) he_15) ?_
      obtain ⟨hr_26, hr_26b, -⟩ := sees_some hs_stepsa (by omega)
      refine jI 3 rfl (jl (i := j_) gT ga hr_26 hr_26b rfl rfl (by omega)) <| jI 4 rfl (kD fo206_0 hr_26 rfl) <| jh 5 rfl (kK (v := iv ((steps.getD j_ p0_).proc)) hs_stepsa nM rfl kp (flat_at encP_len p0_ steps j_ 0 (by omega) (by decide))) <| jI 6 rfl (jF (v := .slice stepsa steps.length stepsc) he_9) <| jI 7 rfl (jF (v := nv j_) he_15) <| jI 8 rfl (jl (i := j_) gT ga hr_26 hr_26b rfl rfl (by omega)) <| jI 9 rfl (kD fo206_1 hr_26 rfl) <| jh 10 rfl (kS (vs := [iv ((steps.getD j_ p0_).call.kind), str ((steps.getD j_ p0_).call.name), str ((steps.getD j_ p0_).call.to_), iv ((steps.getD j_ p0_).call.a), iv ((steps.getD j_ p0_).call.b), str ((steps.getD j_ p0_).call.text)]) hs_stepsa nM rfl ku ko (flat_part encP_len p0_ steps j_ 1 6 (by omega) (by decide)) rfl (by decide)) ?_
      refine JA.three (i := 11) (j := 16) (k := 17) (by kernel_rfl) ?_ ?_ ?_
      · refine jY rfl rfl (jM [] Tryz.call50 rfl (D_callOn s_a s_c s_ ((steps.getD j_ p0_).proc) (steps.getD j_ p0_).call (by have hl_ := (hO).1; omega) (by omega) hpj.1 hO (by omega)) rfl (fun w hw => hw.see (i := 4) rfl)) ?_
        rintro _ _ ⟨_, ⟨x_35, m_36, A_37, e_38, k_39, f_40, rfl, rfl⟩, rfl⟩
        refine ⟨(fun _ h => by cases h), ?_⟩
        refine jI 12 rfl (jF (v := .tuple #[.slice x_35.a0 m_36.s.length x_35.c0, .agg #[iv A_37.code, iv A_37.n, str A_37.text], .agg #[.slice x_35.a1 m_36.r.length x_35.c1, .slice x_35.a2 m_36.w.length x_35.c2]]) rfl) <| jI 13 rfl (jb (v := .slice x_35.a0 m_36.s.length x_35.c0) rfl rfl) <| jI 14 rfl (jb (v := .agg #[iv A_37.code, iv A_37.n, str A_37.text]) rfl rfl) <| jI 15 rfl (jb (v := .agg #[.slice x_35.a1 m_36.r.length x_35.c1, .slice x_35.a2 m_36.w.length x_35.c2]) rfl rfl) ?_
        refine kX (i := 16) (j := 17) (by kernel_rfl) ?_ ?_
        · refine jY rfl rfl (jn (z := .agg #[iv 0, iv 0, str []]) (cs := [iv 0, iv 0, str []]) gG rfl) ?_
          rintro _ _ ⟨b_43, rfl, rfl⟩
          refine ⟨(fun _ h => by cases h), ?_⟩
          refine jQ (i := 17) ?_
          refine jY rfl rfl (jn (z := .agg #[.slice none 0 0, .slice none 0 0]) (cs := [.slice none 0 0, .slice none 0 0]) gU rfl) ?_
          rintro _ _ ⟨b_45, rfl, rfl⟩
          refine ⟨(fun _ h => by cases h), ?_⟩
          refine jI 18 rfl (jG (v := .slice x_35.a0 m_36.s.length x_35.c0) rfl) <| jQ (i := 19) ?_
          refine kF rfl (jT 1 (vs := [iv A_37.code, iv A_37.n, str A_37.text]) (cs' := [iv A_37.code, iv A_37.n, str A_37.text]) rfl rfl rfl rfl kr rfl rfl (lb rfl) rfl) ?_
          rintro _ _ rfl
          refine jQ (i := 20) ?_
          refine jx rfl (jT 0 (vs := [.slice x_35.a1 m_36.r.length x_35.c1, .slice x_35.a2 m_36.w.length x_35.c2]) (cs' := [.slice x_35.a1 m_36.r.length x_35.c1, .slice x_35.a2 m_36.w.length x_35.c2]) rfl rfl rfl rfl kx rfl rfl (lb rfl) rfl) ?_
          rintro _ _ rfl
          refine kZ [0, 0, 0, 0, 0, 0, 0, 0, 0, 0, 0] ?_
          exact kT ⟨x_35, m_36, A_37, b_43, b_45, e_38, k_39, f_40, he_8, he_9, he_10, he_11, he_12, he_13, he_14, he_15, rfl, rfl, rfl,(by kernel_rfl)⟩
        refine jY rfl rfl (jn (z := .agg #[.slice none 0 0, .slice none 0 0]) (cs := [.slice none 0 0, .slice none 0 0]) gU rfl) ?_
        rintro _ _ ⟨b_46, rfl, rfl⟩
        refine ⟨(fun _ h => by cases h), ?_⟩
        refine jQ (i := 16) ?_
        refine jY rfl rfl (jn (z := .agg #[iv 0, iv 0, str []]) (cs := [iv 0, iv 0, str []]) gG rfl) ?_
        rintro _ _ ⟨b_48, rfl, rfl⟩
        refine ⟨(fun _ h => by cases h), ?_⟩
        refine jI 18 rfl (jG (v := .slice x_35.a0 m_36.s.length x_35.c0) rfl) <| jQ (i := 19) ?_
        refine kF rfl (jT 0 (vs := [iv A_37.code, iv A_37.n, str A_37.text]) (cs' := [iv A_37.code, iv A_37.n, str A_37.text]) rfl rfl rfl rfl kr rfl rfl (lb rfl) rfl) ?_
        rintro _ _ rfl
        refine jQ (i := 20) ?_
        refine jx rfl (jT 1 (vs := [.slice x_35.a1 m_36.r.length x_35.c1, .slice x_35.a2 m_36.w.length x_35.c2]) (cs' := [.slice x_35.a1 m_36.r.length x_35.c1, .slice x_35.a2 m_36.w.length x_35.c2]) rfl rfl rfl rfl kx rfl rfl (lb rfl) rfl) ?_
        rintro _ _ rfl
        refine kZ [1, 0, 0, 0, 0, 0, 0, 0, 0, 0, 0] ?_
        exact kT ⟨x_35, m_36, A_37, b_48, b_46, e_38, k_39, f_40, he_8, he_9, he_10, he_11, he_12, he_13, he_14, he_15, rfl, rfl, rfl,(by kernel_rfl)⟩
      · refine jY rfl rfl (jn (z := .agg #[iv 0, iv 0, str []]) (cs := [iv 0, iv 0, str []]) gG rfl) ?_
        rintro _ _ ⟨b_49, rfl, rfl⟩
        refine ⟨(fun _ h => by cases h), ?_⟩
        refine kX (i := 11) (j := 17) (by kernel_rfl) ?_ ?_
        · refine jY rfl rfl (jM [] Tryz.call50 rfl (D_callOn s_a s_c s_ ((steps.getD j_ p0_).proc) (steps.getD j_ p0_).call (by have hl_ := (hO).1; omega) (by omega) hpj.1 hO (by omega)) rfl (fun w hw => hw.see (i := 5) rfl)) ?_
          rintro _ _ ⟨_, ⟨x_57, m_58, A_59, e_60, k_61, f_62, rfl, rfl⟩, rfl⟩
          refine ⟨(fun _ h => by cases h), ?_⟩
          refine jI 12 rfl (jF (v := .tuple #[.slice x_57.a0 m_58.s.length x_57.c0, .agg #[iv A_59.code, iv A_59.n, str A_59.text], .agg #[.slice x_57.a1 m_58.r.length x_57.c1, .slice x_57.a2 m_58.w.length x_57.c2]]) rfl) <| jI 13 rfl (jb (v := .slice x_57.a0 m_58.s.length x_57.c0) rfl rfl) <| jI 14 rfl (jb (v := .agg #[iv A_59.code, iv A_59.n, str A_59.text]) rfl rfl) <| jI 15 rfl (jb (v := .agg #[.slice x_57.a1 m_58.r.length x_57.c1, .slice x_57.a2 m_58.w.length x_57.c2]) rfl rfl) <| jQ (i := 17) ?_
          refine jY rfl rfl (jn (z := .agg #[.slice none 0 0, .slice none 0 0]) (cs := [.slice none 0 0, .slice none 0 0]) gU rfl) ?_
          rintro _ _ ⟨b_64, rfl, rfl⟩
          refine ⟨(fun _ h => by cases h), ?_⟩
          refine jI 18 rfl (jG (v := .slice x_57.a0 m_58.s.length x_57.c0) rfl) <| jQ (i := 19) ?_
          refine kF rfl (jT 4 (vs := [iv A_59.code, iv A_59.n, str A_59.text]) (cs' := [iv A_59.code, iv A_59.n, str A_59.text]) rfl rfl rfl rfl kr rfl rfl (lb rfl) rfl) ?_
          rintro _ _ rfl
          refine jQ (i := 20) ?_
          refine jx rfl (jT 0 (vs := [.slice x_57.a1 m_58.r.length x_57.c1, .slice x_57.a2 m_58.w.length x_57.c2]) (cs' := [.slice x_57.a1 m_58.r.length x_57.c1, .slice x_57.a2 m_58.w.length x_57.c2]) rfl rfl rfl rfl kx rfl rfl (lb rfl) rfl) ?_
          rintro _ _ rfl
          refine kZ [0, 3, 0, 0, 0, 0, 0, 0, 0, 0, 0] ?_
          exact kT ⟨x_57, m_58, A_59, b_49, b_64, e_60, k_61, f_62, he_8, he_9, he_10, he_11, he_12, he_13, he_14, he_15, rfl, rfl, rfl,(by kernel_rfl)⟩
        refine jY rfl rfl (jn (z := .agg #[.slice none 0 0, .slice none 0 0]) (cs := [.slice none 0 0, .slice none 0 0]) gU rfl) ?_
        rintro _ _ ⟨b_65, rfl, rfl⟩
        refine ⟨(fun _ h => by cases h), ?_⟩
        refine jQ (i := 11) ?_
        refine jY rfl rfl (jM [] Tryz.call50 rfl (D_callOn s_a s_c s_ ((steps.getD j_ p0_).proc) (steps.getD j_ p0_).call (by have hl_ := (hO).1; omega) (by omega) hpj.1 hO (by omega)) rfl (fun w hw => hw.see (i := 6) rfl)) ?_
        rintro _ _ ⟨_, ⟨x_72, m_73, A_74, e_75, k_76, f_77, rfl, rfl⟩, rfl⟩
        refine ⟨(fun _ h => by cases h), ?_⟩
        refine jI 12 rfl (jF (v := .tuple #[.slice x_72.a0 m_73.s.length x_72.c0, .agg #[iv A_74.code, iv A_74.n, str A_74.text], .agg #[.slice x_72.a1 m_73.r.length x_72.c1, .slice x_72.a2 m_73.w.length x_72.c2]]) rfl) <| jI 13 rfl (jb (v := .slice x_72.a0 m_73.s.length x_72.c0) rfl rfl) <| jI 14 rfl (jb (v := .agg #[iv A_74.code, iv A_74.n, str A_74.text]) rfl rfl) <| jI 15 rfl (jb (v := .agg #[.slice x_72.a1 m_73.r.length x_72.c1, .slice x_72.a2 m_73.w.length x_72.c2]) rfl rfl) <| jI 18 rfl (jG (v := .slice x_72.a0 m_73.s.length x_72.c0) rfl) <| jQ (i := 19) ?_
        refine kF rfl (jT 4 (vs := [iv A_74.code, iv A_74.n, str A_74.text]) (cs' := [iv A_74.code, iv A_74.n, str A_74.text]) rfl rfl rfl rfl kr rfl rfl (lb rfl) rfl) ?_
        rintro _ _ rfl
        refine jQ (i := 20) ?_
        refine jx rfl (jT 3 (vs := [.slice x_72.a1 m_73.r.length x_72.c1, .slice x_72.a2 m_73.w.length x_72.c2]) (cs' := [.slice x_72.a1 m_73.r.length x_72.c1, .slice x_72.a2 m_73.w.length x_72.c2]) rfl rfl rfl rfl kx rfl rfl (lb rfl) rfl) ?_
        rintro _ _ rfl
        refine kZ [3, 3, 0, 0, 0, 0, 0, 0, 0, 0, 0] ?_
        exact kT ⟨x_72, m_73, A_74, b_49, b_65, e_75, k_76, f_77, he_8, he_9, he_10, he_11, he_12, he_13, he_14, he_15, rfl, rfl, rfl,(by kernel_rfl)⟩
      refine jY rfl rfl (jn (z := .agg #[.slice none 0 0, .slice none 0 0]) (cs := [.slice none 0 0, .slice none 0 0]) gU rfl) ?_
      rintro _ _ ⟨b_78, rfl, rfl⟩
      refine ⟨(fun _ h => by cases h), ?_⟩
      refine kX (i := 11) (j := 16) (by kernel_rfl) ?_ ?_
      · refine jY rfl rfl (jM [] Tryz.call50 rfl (D_callOn s_a s_c s_ ((steps.getD j_ p0_).proc) (steps.getD j_ p0_).call (by have hl_ := (hO).1; omega) (by omega) hpj.1 hO (by omega)) rfl (fun w hw => hw.see (i := 5) rfl)) ?_
        rintro _ _ ⟨_, ⟨x_86, m_87, A_88, e_89, k_90, f_91, rfl, rfl⟩, rfl⟩
        refine ⟨(fun _ h => by cases h), ?_⟩
        refine jI 12 rfl (jF (v := .tuple #[.slice x_86.a0 m_87.s.length x_86.c0, .agg #[iv A_88.code, iv A_88.n, str A_88.text], .agg #[.slice x_86.a1 m_87.r.length x_86.c1, .slice x_86.a2 m_87.w.length x_86.c2]]) rfl) <| jI 13 rfl (jb (v := .slice x_86.a0 m_87.s.length x_86.c0) rfl rfl) <| jI 14 rfl (jb (v := .agg #[iv A_88.code, iv A_88.n, str A_88.text]) rfl rfl) <| jI 15 rfl (jb (v := .agg #[.slice x_86.a1 m_87.r.length x_86.c1, .slice x_86.a2 m_87.w.length x_86.c2]) rfl rfl) <| jQ (i := 16) ?_
        refine jY rfl rfl (jn (z := .agg #[iv 0, iv 0, str []]) (cs := [iv 0, iv 0, str []]) gG rfl) ?_
        rintro _ _ ⟨b_93, rfl, rfl⟩
        refine ⟨(fun _ h => by cases h), ?_⟩
        refine jI 18 rfl (jG (v := .slice x_86.a0 m_87.s.length x_86.c0) rfl) <| jQ (i := 19) ?_
        refine kF rfl (jT 0 (vs := [iv A_88.code, iv A_88.n, str A_88.text]) (cs' := [iv A_88.code, iv A_88.n, str A_88.text]) rfl rfl rfl rfl kr rfl rfl (lb rfl) rfl) ?_
        rintro _ _ rfl
        refine jQ (i := 20) ?_
        refine jx rfl (jT 4 (vs := [.slice x_86.a1 m_87.r.length x_86.c1, .slice x_86.a2 m_87.w.length x_86.c2]) (cs' := [.slice x_86.a1 m_87.r.length x_86.c1, .slice x_86.a2 m_87.w.length x_86.c2]) rfl rfl rfl rfl kx rfl rfl (lb rfl) rfl) ?_
        rintro _ _ rfl
        refine kZ [4, 0, 0, 0, 0, 0, 0, 0, 0, 0, 0] ?_
        exact kT ⟨x_86, m_87, A_88, b_93, b_78, e_89, k_90, f_91, he_8, he_9, he_10, he_11, he_12, he_13, he_14, he_15, rfl, rfl, rfl,(by kernel_rfl)⟩
      refine jY rfl rfl (jn (z := .agg #[iv 0, iv 0, str []]) (cs := [iv 0, iv 0, str []]) gG rfl) ?_
      rintro _ _ ⟨b_94, rfl, rfl⟩
      refine ⟨(fun _ h => by cases h), ?_⟩
      refine jQ (i := 11) ?_
      refine jY rfl rfl (jM [] Tryz.call50 rfl (D_callOn s_a s_c s_ ((steps.getD j_ p0_).proc) (steps.getD j_ p0_).call (by have hl_ := (hO).1; omega) (by omega) hpj.1 hO (by omega)) rfl (fun w hw => hw.see (i := 6) rfl)) ?_
      rintro _ _ ⟨_, ⟨x_101, m_102, A_103, e_104, k_105, f_106, rfl, rfl⟩, rfl⟩
      refine ⟨(fun _ h => by cases h), ?_⟩
      refine jI 12 rfl (jF (v := .tuple #[.slice x_101.a0 m_102.s.length x_101.c0, .agg #[iv A_103.code, iv A_103.n, str A_103.text], .agg #[.slice x_101.a1 m_102.r.length x_101.c1, .slice x_101.a2 m_102.w.length x_101.c2]]) rfl) <| jI 13 rfl (jb (v := .slice x_101.a0 m_102.s.length x_101.c0) rfl rfl) <| jI 14 rfl (jb (v := .agg #[iv A_103.code, iv A_103.n, str A_103.text]) rfl rfl) <| jI 15 rfl (jb (v := .agg #[.slice x_101.a1 m_102.r.length x_101.c1, .slice x_101.a2 m_102.w.length x_101.c2]) rfl rfl) <| jI 18 rfl (jG (v := .slice x_101.a0 m_102.s.length x_101.c0) rfl) <| jQ (i := 19) ?_
      refine kF rfl (jT 3 (vs := [iv A_103.code, iv A_103.n, str A_103.text]) (cs' := [iv A_103.code, iv A_103.n, str A_103.text]) rfl rfl rfl rfl kr rfl rfl (lb rfl) rfl) ?_
      rintro _ _ rfl
      refine jQ (i := 20) ?_
      refine jx rfl (jT 4 (vs := [.slice x_101.a1 m_102.r.length x_101.c1, .slice x_101.a2 m_102.w.length x_101.c2]) (cs' := [.slice x_101.a1 m_102.r.length x_101.c1, .slice x_101.a2 m_102.w.length x_101.c2]) rfl rfl rfl rfl kx rfl rfl (lb rfl) rfl) ?_
      rintro _ _ rfl
      refine kZ [4, 3, 0, 0, 0, 0, 0, 0, 0, 0, 0] ?_
      exact kT ⟨x_101, m_102, A_103, b_94, b_78, e_104, k_105, f_106, he_8, he_9, he_10, he_11, he_12, he_13, he_14, he_15, rfl, rfl, rfl,(by kernel_rfl)⟩
    rintro e_107 _ ⟨x_18, m_19, A_20, b_24, b_25, e_21, k_22, f_23, he_108, he_109, he_110, he_111, he_112, he_113, he_114, he_115, he_116, he_117, he_118, rfl⟩
    refine jB <| jC <| jE <| jA (jF (v := .slice x_18.a0 m_19.s.length x_18.c0) he_116) <| jA (jG (v := .slice x_18.a0 m_19.s.length x_18.c0) rfl) <| jD <| jB <| jC <| jE <| jA (jF (v := .slice o_a o_.length o_c) he_113) ?_
    refine jK (jX 1 (vs := [iv A_20.code, iv A_20.n, str A_20.text]) rfl he_117 gA kr rfl rfl) ?_
    refine jH rfl (kJ (ps := [(0, .agg #[iv A_20.code, iv A_20.n, str A_20.text])]) (cur := #[iv A_20.code, iv A_20.n, str A_20.text]) gN kr gG rfl (by kernel_rfl) (by decide) (by decide)) ?_
    rintro _ _ ⟨a_119, rfl, rfl⟩
    refine jH rfl (kM 9 (q := 1) (news := ([A_20] : List AN).flatMap encA) (n' := (o_ ++ ([A_20] : List AN)).length) (cs' := (o_ ++ ([A_20] : List AN)).flatMap encA) rfl gN gN Tryz.typeInfo45 rfl (by' := 32) rfl rfl rfl rfl rfl (fun w hw => Src.sees (hw.see (i := 0) rfl) (oneA _)) (by (try simp only [LE]); omega) (by (try simp only [LE]); omega) (by simp only [List.length_append, List.length_take, List.length_drop, List.length_cons, List.length_nil] <;> first | rfl | omega) (by simp only [List.flatMap_append])) ?_
    rintro _ _ ⟨a_120, c_121, rfl, rfl⟩
    refine jA (jG (v := .slice a_120 ((o_ ++ ([A_20] : List AN)).length) c_121) rfl) <| jD <| jB ?_
    have hkr := k_22.2.1
    have hkw := k_22.2.2.1
    refine jE <| jK (jX 8 (vs := [.slice r_a r_.length r_c, .slice w_a w_.length w_c]) rfl he_114 gL kx rfl rfl) <| jK (jX 1 (vs := [.slice x_18.a1 m_19.r.length x_18.c1, .slice x_18.a2 m_19.w.length x_18.c2]) rfl he_118 gL kx rfl rfl) ?_
    refine jH rfl (jM [] Tryz.call52 rfl (C_joinTouch r_a w_a x_18.a1 x_18.a2 r_c w_c x_18.c1 x_18.c2 r_ w_ m_19.r m_19.w (by omega) (by omega) (by (try simp only [List.length_nil]); omega) (by (try simp only [List.length_nil]); omega)) rfl (fun w hw => ⟨hw.see (i := 7) rfl, hw.see (i := 6) rfl, hw.see (i := 4) rfl, hw.see (i := 5) rfl⟩)) ?_
    rintro _ _ ⟨_, ⟨a_122, c_123, a_124, c_125, rfl, rfl⟩, rfl⟩
    refine jH rfl (jT 10 (vs := [.slice a_122 ((m_19.r.foldl addSpan r_).length) c_123, .slice a_124 ((m_19.w.foldl addSpan w_).length) c_125]) (cs' := [.slice a_122 ((m_19.r.foldl addSpan r_).length) c_123, .slice a_124 ((m_19.w.foldl addSpan w_).length) c_125]) rfl he_114 rfl rfl kx rfl rfl (lb rfl) rfl) ?_
    rintro _ _ rfl
    refine jD <| jk <| jB <| jE <| jA (jF (v := nv j_) he_115) <| jA (ji (c := ((j_ + 1 : Nat) : Int)) rfl rfl (wr (by omega))) <| jA (jG (v := iv ((j_ + 1 : Nat) : Int)) rfl) <| jD <| kH [1, 0, 8, 8, 3, 8] (A := [rS a_124 c_125 (m_19.w.foldl addSpan w_), rS a_122 c_123 (m_19.r.foldl addSpan r_), bk b_6 28 [.slice a_122 ((m_19.r.foldl addSpan r_).length) c_123, .slice a_124 ((m_19.w.foldl addSpan w_).length) c_125], Res.row (.slice a_120 ((o_ ++ ([A_20] : List AN)).length) c_121) 45 3 ((o_ ++ ([A_20] : List AN)).length) ((o_ ++ ([A_20] : List AN)).flatMap encA), rC x_18.a0 x_18.c0 m_19.s, bk b_1 28 [.slice none 0 0, .slice none 0 0]]) (F := [Res.row (.slice a_119 1 1) 45 3 1 (([A_20] : List AN).flatMap encA), bk b_25 28 [.slice x_18.a1 m_19.r.length x_18.c1, .slice x_18.a2 m_19.w.length x_18.c2], bk b_24 45 [iv A_20.code, iv A_20.n, str A_20.text], rS x_18.a1 x_18.c1 m_19.r, rS x_18.a2 x_18.c2 m_19.w, rS w_a w_c w_, rS r_a r_c r_, rC s_a s_c s_]) (by kernel_rfl) ?_
    refine ju (steps.length + 1 - (j_ + 1)) (by omega) ⟨(j_ + 1), x_18.a0, x_18.c0, m_19.s, a_120, c_121, (o_ ++ ([A_20] : List AN)), a_122, c_123, (m_19.r.foldl addSpan r_), a_124, c_125, (m_19.w.foldl addSpan w_), (by omega), (k_22.okC'.mono (by omega)), (by simp only [List.length_append, List.length_cons, List.length_nil]; omega), (by have hl_ := foldSpan_len m_19.r r_; have hk_ := k_22.2; omega), (by have hl_ := foldSpan_len m_19.w w_; have hk_ := k_22.2; omega), (by rw [runL_step hlt e_21] at hR; exact hR), rfl, he_109, he_110, he_111, he_112, rfl, he_114, rfl, rfl, rfl⟩
  refine jP (cB (dF h_16)) <| jz <| jj <| jj <| kA <| jB <| jC <| jr [bk b_6 28 [.slice r_a r_.length r_c, .slice w_a w_.length w_c]] 5 mixed (by simp) <| jI 0 rfl (jF (v := .slice s_a s_.length s_c) he_8) <| jI 1 rfl (jF (v := .slice o_a o_.length o_c) he_13) ?_
  refine jh 2 rfl (jX 0 (vs := [.slice r_a r_.length r_c, .slice w_a w_.length w_c]) rfl he_14 gL kx rfl rfl) <| jI 3 rfl (jG (v := .slice s_a s_.length s_c) rfl) <| jI 4 rfl (jG (v := .slice o_a o_.length o_c) rfl) <| jQ (i := 5) ?_
  refine jx rfl (jT 5 (vs := [.slice r_a r_.length r_c, .slice w_a w_.length w_c]) (cs' := [.slice r_a r_.length r_c, .slice w_a w_.length w_c]) rfl he_12 rfl rfl kx rfl rfl (lb rfl) rfl) ?_
  rintro _ _ rfl
  refine jB <| jL <| kR (pick_perm [4, 3, 1, 0] (A := [rC s_a s_c s_, Res.row (.slice o_a o_.length o_c) 45 3 o_.length (o_.flatMap encA), rS r_a r_c r_, rS w_a w_c w_]) (F := [bk b_6 28 [.slice r_a r_.length r_c, .slice w_a w_.length w_c], bk b_1 28 [.slice r_a r_.length r_c, .slice w_a w_.length w_c]]) rfl).symm <| ka (.inl rfl) rfl (jN (v := .slice s_a s_.length s_c) rfl) (jN (v := .slice o_a o_.length o_c) rfl) (je (jX 5 (vs := [.slice r_a r_.length r_c, .slice w_a w_.length w_c]) rfl he_12 gL kx rfl rfl) ⟨_, he_12⟩) (tS 4 _) ?_
  obtain rfl : j_ = steps.length := by omega
  rw [List.drop_length, runL] at hR
  exact ⟨s_a, s_c, s_, o_a, o_c, o_, r_a, r_c, r_, w_a, w_c, w_, hR.symm, hO, hol, ⟨hr, hw_⟩, rfl, rfl⟩

end Go.Proofs.YtghfijncihbojaaGreat

set_option linter.unusedSimpArgs false
set_option linter.unusedVariables false
set_option linter.unnecessarySimpa false
namespace Go.Proofs.YtghfijncihbojaaGreat
open Go Go.RowKit
structure SD where
  seq : Int
  cells : List Cell
  whole : Bool
theorem SD.same {a b : SD} : a = b ↔ a.seq = b.seq ∧ a.cells = b.cells ∧ a.whole = b.whole := by cases a; cases b; simp
instance decSD : DecidableEq SD := fun a b => decidable_of_iff _ SD.same.symm
structure SD.lim (t : SD) (n : Nat) : Prop where
  l0 : t.cells.length ≤ n
theorem SD.lim.mono {t : SD} {n m : Nat} (h : t.lim n) (hm : n ≤ m) : t.lim m := ⟨Nat.le_trans h.l0 hm⟩
structure TX where
  x : TA
  t : TD
@[reducible] def xc (p : TX) : List Value := [.int .i64 p.t.id, .int .i64 p.t.age, .int .i64 p.t.proc, .int .i64 p.t.began, .slice p.x.a0 p.t.calls.length p.x.c0, .slice p.x.a1 p.t.ans.length p.x.c1, .slice p.x.a2 p.t.rd.length p.x.c2, .slice p.x.a3 p.t.wr.length p.x.c3, .slice p.x.a4 p.t.marks.length p.x.c4, .int .i64 p.t.state]
@[reducible] def xv (p : TX) : Value := .agg #[.int .i64 p.t.id, .int .i64 p.t.age, .int .i64 p.t.proc, .int .i64 p.t.began, .slice p.x.a0 p.t.calls.length p.x.c0, .slice p.x.a1 p.t.ans.length p.x.c1, .slice p.x.a2 p.t.rd.length p.x.c2, .slice p.x.a3 p.t.wr.length p.x.c3, .slice p.x.a4 p.t.marks.length p.x.c4, .int .i64 p.t.state]
@[reducible] def xzc : List Value := [.int .i64 0, .int .i64 0, .int .i64 0, .int .i64 0, .slice none 0 0, .slice none 0 0, .slice none 0 0, .slice none 0 0, .slice none 0 0, .int .i64 0]
@[reducible] def xz : Value := .agg #[.int .i64 0, .int .i64 0, .int .i64 0, .int .i64 0, .slice none 0 0, .slice none 0 0, .slice none 0 0, .slice none 0 0, .slice none 0 0, .int .i64 0]
def rdsX (p : TX) : List RD := [⟨.slice p.x.a0 p.t.calls.length p.x.c0, 51, 6, p.t.calls.length, p.t.calls.flatMap encK⟩, ⟨.slice p.x.a1 p.t.ans.length p.x.c1, 45, 3, p.t.ans.length, p.t.ans.flatMap encA⟩, ⟨.slice p.x.a2 p.t.rd.length p.x.c2, 9, 1, p.t.rd.length, p.t.rd.map str⟩, ⟨.slice p.x.a3 p.t.wr.length p.x.c3, 9, 1, p.t.wr.length, p.t.wr.map str⟩, ⟨.slice p.x.a4 p.t.marks.length p.x.c4, 3, 1, p.t.marks.length, p.t.marks.map (Value.int .i64)⟩]
theorem seesX {w : World} {p : TX} (h : SeesA w (rdsX p)) : Sees w (.slice p.x.a0 p.t.calls.length p.x.c0) 6 p.t.calls.length (p.t.calls.flatMap encK) ∧ Sees w (.slice p.x.a1 p.t.ans.length p.x.c1) 3 p.t.ans.length (p.t.ans.flatMap encA) ∧ Sees w (.slice p.x.a2 p.t.rd.length p.x.c2) 1 p.t.rd.length (p.t.rd.map str) ∧ Sees w (.slice p.x.a3 p.t.wr.length p.x.c3) 1 p.t.wr.length (p.t.wr.map str) ∧ Sees w (.slice p.x.a4 p.t.marks.length p.x.c4) 1 p.t.marks.length (p.t.marks.map (Value.int .i64)) := ⟨h.head, h.tail.head, h.tail.tail.head, h.tail.tail.tail.head, h.tail.tail.tail.tail.head⟩
theorem TD.same {a b : TD} : a = b ↔ a.id = b.id ∧ a.age = b.age ∧ a.proc = b.proc ∧ a.began = b.began ∧ a.calls = b.calls ∧ a.ans = b.ans ∧ a.rd = b.rd ∧ a.wr = b.wr ∧ a.marks = b.marks ∧ a.state = b.state := by cases a; cases b; simp
instance decTD : DecidableEq TD := fun a b => decidable_of_iff _ TD.same.symm
structure TD.lim (t : TD) (n : Nat) : Prop where
  l0 : t.calls.length ≤ n
  l1 : t.ans.length ≤ n
  l2 : t.rd.length ≤ n
  l3 : t.wr.length ≤ n
  l4 : t.marks.length ≤ n
theorem TD.lim.mono {t : TD} {n m : Nat} (h : t.lim n) (hm : n ≤ m) : t.lim m := ⟨Nat.le_trans h.l0 hm, Nat.le_trans h.l1 hm, Nat.le_trans h.l2 hm, Nat.le_trans h.l3 hm, Nat.le_trans h.l4 hm⟩
structure ED where
  seq : Int
  kind : Int
  tx : Int
  steps : List SP
  ans : List AN
  began : Int
  ended : Int
  laid : Bool
structure EA where
  a0 : Option Addr
  c0 : Nat
  a1 : Option Addr
  c1 : Nat
structure EX where
  x : EA
  t : ED
def e0 : EX := ⟨⟨none, 0, none, 0⟩, ⟨0, 0, 0, [], [], 0, 0, false⟩⟩
theorem ED.same {a b : ED} : a = b ↔ a.seq = b.seq ∧ a.kind = b.kind ∧ a.tx = b.tx ∧ a.steps = b.steps ∧ a.ans = b.ans ∧ a.began = b.began ∧ a.ended = b.ended ∧ a.laid = b.laid := by cases a; cases b; simp
instance decED : DecidableEq ED := fun a b => decidable_of_iff _ ED.same.symm
structure ED.lim (t : ED) (n : Nat) : Prop where
  l0 : t.steps.length ≤ n
  l1 : t.ans.length ≤ n
theorem ED.lim.mono {t : ED} {n m : Nat} (h : t.lim n) (hm : n ≤ m) : t.lim m := ⟨Nat.le_trans h.l0 hm, Nat.le_trans h.l1 hm⟩
structure DD where
  slots : List SD
  jt : Str
  js : Int
def DD.new (s : List Cell) : DD := ⟨[⟨0, s, true⟩, ⟨0, [], false⟩], [], 0⟩
theorem DD.same {a b : DD} : a = b ↔ a.slots = b.slots ∧ a.jt = b.jt ∧ a.js = b.js := by cases a; cases b; simp
instance decDD : DecidableEq DD := fun a b => decidable_of_iff _ DD.same.symm
structure DD.lim (d : DD) (n : Nat) : Prop where
  l0 : d.slots.length ≤ n
  l1 : ∀ s ∈ d.slots, s.lim n
structure KD where
  store : List Cell
  txs : List TD
  dk : DD
  seq : Int
  next : Int
  time : Int
  hist : List ED
  seen : List Str
  room : Bool
theorem KD.same {a b : KD} : a = b ↔ a.store = b.store ∧ a.txs = b.txs ∧ a.dk = b.dk ∧ a.seq = b.seq ∧ a.next = b.next ∧ a.time = b.time ∧ a.hist = b.hist ∧ a.seen = b.seen ∧ a.room = b.room := by cases a; cases b; simp
instance decKD : DecidableEq KD := fun a b => decidable_of_iff _ KD.same.symm
structure KD.lim (k : KD) (n : Nat) : Prop where
  l0 : k.store.length ≤ n
  l1 : k.txs.length ≤ n
  l2 : ∀ t ∈ k.txs, t.lim n
  l3 : k.dk.lim n
  l4 : k.hist.length ≤ n
  l5 : ∀ t ∈ k.hist, t.lim n
  l6 : k.seen.length ≤ n
theorem KD.lim.mono {k : KD} {n m : Nat} (h : k.lim n) (hm : n ≤ m) : k.lim m := ⟨Nat.le_trans h.l0 hm, Nat.le_trans h.l1 hm, fun t ht => (h.l2 t ht).mono hm, ⟨Nat.le_trans h.l3.l0 hm, fun t ht => (h.l3.l1 t ht).mono hm⟩, Nat.le_trans h.l4 hm, fun t ht => (h.l5 t ht).mono hm, Nat.le_trans h.l6 hm⟩
end Go.Proofs.YtghfijncihbojaaGreat
