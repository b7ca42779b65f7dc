/-
  Texts of the walk, joined: what each one proves stands at its theorems.
-/
import Derived.Test.YtjncpgcccgdeiaaGreatDoorSlStr
import Derived.Test.YtjncpgcccgdeiaaGreatDoorDatT
import Derived.Lib.Strings
import Derived.Test.YtjncpgcccgdeiaaGreatDoorS60DISK
import Derived.Laws.Small
import Derived.Lib.MinMax
set_option linter.unusedSimpArgs false
set_option linter.unusedVariables false
set_option linter.unnecessarySimpa false
namespace Go.Proofs.YtjncpgcccgdeiaaGreatDoor
open Go Go.RowKit
@[reducible] def cb (b : Nat) (a : Option Addr) (c : Nat) (l : Str) (p : Nat) (s : Int) : Res := bk b 133 [.slice a l.length c, .int .i64 ((p : Nat) : Int), .int .i64 s]
/-- The bytes that a cursor goes over can be read, and none of these resources holds them. -/
def seesC (w : World) (a : Option Addr) (c : Nat) (l : Str) (A : List Res) : Prop := Sees w (.slice a l.length c) 1 l.length (l.map encB) ∧ ∀ i, (Value.slice a l.length c).ownBlock = some i → i ∉ idsOf A
theorem atB {l : Str} {i : Nat} (h : i < l.length) : (l.map encB)[i * 1]? = some (.int .u8 (((l.getD i 0).toNat : Nat) : Int)) := by simp [h, encB]
theorem and_bnd (x m : Int) (h0 : 0 ≤ m) (h1 : m < 9223372036854775808) : 0 ≤ bits .and .i64 x m ∧ bits .and .i64 x m ≤ m := by
  have hm : (BitVec.ofInt 64 m).toNat = m.toNat := by
    rw [BitVec.toNat_ofInt]
    congr 1
    omega
  have hle : ((BitVec.ofInt 64 x) &&& (BitVec.ofInt 64 m)).toNat ≤ m.toNat := by
    rw [BitVec.toNat_and, hm]
    exact Nat.and_le_right
  have hw : bits .and .i64 x m = ((((BitVec.ofInt 64 x) &&& (BitVec.ofInt 64 m)).toNat : Nat) : Int) := by
    unfold bits
    show IntKind.i64.wrap ((((BitVec.ofInt 64 x) &&& (BitVec.ofInt 64 m)).toNat : Nat) : Int) = _
    exact wr (by omega)
  rw [hw]
  omega
theorem St.apart {w0 w : World} {D : List Nat} {L A : List Res} {v : Value} {k m : Nat} {vs : List Value} (hw : St w0 D L w) (hs : Sees w0 v k m vs) (hD : ∀ b, v.ownBlock = some b → b ∉ D) (hA : ∀ r ∈ A, r ∈ L) :
    ∀ j, v.ownBlock = some j → j ∉ idsOf A := fun j hj hin => by
  obtain ⟨r, hr, hjr⟩ := mem_idsOf.1 hin
  rcases hs.2 with ⟨rfl, _⟩ | ⟨b, o, cap, hv, h1, h2, h3, h4⟩
  · simp [Value.ownBlock] at hj
  · rcases hw.fresh j (mem_idsOf.2 ⟨r, hA r hr, hjr⟩) with h | h
    · exact hD j hj h
    · subst hv
      simp [Value.ownBlock] at hj
      omega
/-- What PutKey keeps. -/
def okC' (n k : Nat) (s : List Cell) : Prop := s.length ≤ n ∧ ∀ c ∈ s, c.1.length ≤ k ∧ c.2.length ≤ k
theorem okC'.put {n k : Nat} {s : List Cell} (h : okC' n k s) (key val : Str) (h1 : key.length ≤ k) (h2 : val.length ≤ k) : okC' (n + 1) k (putKey s key val) := by
  refine ⟨Nat.le_trans (putKey_len s key val) (by have := h.1; omega), fun c hc => ?_⟩
  rcases putKey_mem (s := s) hc with hc | ⟨rfl, _, _⟩
  · exact h.2 c hc
  · exact ⟨h1, h2⟩
theorem okC'.mono {n n' k : Nat} {s : List Cell} (h : okC' n k s) (hn : n ≤ n') : okC' n' k s := ⟨Nat.le_trans h.1 hn, h.2⟩
attribute [local irreducible] JL JC JQ JO LO PO JA JX Ct

theorem D_byte (qb : Nat) (qa : Option Addr) (qc : Nat) (ql : Str) (qp : Nat) (qs : Int) (hql : ql.length ≤ 1048576) (hqp : qp ≤ ql.length)  :
    Ct Tryz.prog 119 [.pointer (some ⟨qb, 0, none⟩)] [cb qb qa qc ql qp qs] (fun w => seesC w qa qc ql [cb qb qa qc ql qp qs]) (fun v A' => ∃ qp' qs' r0, qp' ≤ ql.length ∧ (r0 ≤ 255) ∧ v = .int .i64 ((r0 : Nat) : Int) ∧ A' = [cb qb qa qc ql qp' qs']) := by
  refine Ct.intro Tryz.func119 rfl Tryz.ntmps119 (lb rfl) fun w0 hpre => ?_
  have hs_qa : Sees w0 _ _ _ _ := hpre.1
  refine jC <| jF <| jA (jG (v := iv 0) rfl) <| jE <| jB <| jC <| jF <| jA (jD (v := .pointer (some ⟨qb, 0, none⟩)) rfl) <| jA (jD (v := .pointer (some ⟨qb, 0, none⟩)) rfl) <| jA (PO.nilCheck rfl) ?_
  refine jA (jQ fo133_2 rfl) <| jK (jZ 0 (v := iv qs) rfl rfl kq rfl) <| jA (PO.mulW rfl rfl) <| jA (PO.addW rfl rfl) <| jA (PO.nilCheck rfl) <| jA (jQ fo133_2 rfl) ?_
  refine jH rfl (ja 0 (vs := [iv (IntKind.i64.wrap ((IntKind.i64.wrap (qs * 6364136223846793005)) + 1442695040888963407))]) (cs' := [.slice qa ql.length qc, nv qp, iv (IntKind.i64.wrap ((IntKind.i64.wrap (qs * 6364136223846793005)) + 1442695040888963407))]) rfl rfl rfl rfl gA rfl rfl (lb rfl) rfl) ?_
  rintro _ _ rfl
  refine jE <| jB <| jC <| kJ [cb qb qa qc ql qp (IntKind.i64.wrap ((IntKind.i64.wrap (qs * 6364136223846793005)) + 1442695040888963407))] 12 mixed (by simp) <| jL 0 rfl (jD (v := .pointer (some ⟨qb, 0, none⟩)) rfl) <| jL 1 rfl (PO.nilCheck rfl) <| jL 2 rfl (jQ fo133_2 rfl) <| jw 3 rfl (jZ 0 (v := iv (IntKind.i64.wrap ((IntKind.i64.wrap (qs * 6364136223846793005)) + 1442695040888963407))) rfl rfl kq rfl) <| jL 4 rfl (PO.shr rfl rfl (by decide) (by decide)) <| jL 5 rfl (jD (v := .pointer (some ⟨qb, 0, none⟩)) rfl) ?_
  refine jL 6 rfl (PO.nilCheck rfl) <| jL 7 rfl (jQ fo133_2 rfl) <| jw 8 rfl (jZ 0 (v := iv (IntKind.i64.wrap ((IntKind.i64.wrap (qs * 6364136223846793005)) + 1442695040888963407))) rfl rfl kq rfl) <| jL 9 rfl (PO.shr rfl rfl (by decide) (by decide)) <| jL 10 rfl (PO.bits (by simp) rfl rfl) <| jL 11 rfl (PO.bits (by simp) rfl rfl) <| jL 12 rfl (jG (v := iv (Go.bits .and .i64 (Go.bits .xor .i64 ((IntKind.i64.wrap ((IntKind.i64.wrap (qs * 6364136223846793005)) + 1442695040888963407)) / 2 ^ (33 : Int).toNat) ((IntKind.i64.wrap ((IntKind.i64.wrap (qs * 6364136223846793005)) + 1442695040888963407)) / 2 ^ (45 : Int).toNat)) 255)) rfl) <| kI (by kernel_rfl) <| jB <| jC ?_
  refine jC <| kJ [cb qb qa qc ql qp (IntKind.i64.wrap ((IntKind.i64.wrap (qs * 6364136223846793005)) + 1442695040888963407))] 1000 mixed (by simp) <| jL 0 rfl (jD (v := .pointer (some ⟨qb, 0, none⟩)) rfl) <| jL 1 rfl (PO.nilCheck rfl) <| jL 2 rfl (jQ fo133_1 rfl) <| jw 3 rfl (jZ 0 (v := nv qp) rfl rfl kq rfl) <| jL 4 rfl (jD (v := .pointer (some ⟨qb, 0, none⟩)) rfl) <| jL 5 rfl (PO.nilCheck rfl) <| jL 6 rfl (jQ fo133_0 rfl) <| jw 7 rfl (jZ 0 (v := .slice qa ql.length qc) rfl rfl Tryz.isAgg39 rfl) ?_
  refine jL 8 rfl (jr kr rfl) <| jL 9 rfl (jl rfl rfl) <| kI (by kernel_rfl) <| jB ?_
  by_cases h_1 : ((qp : Nat) : Int) < ((ql.length : Nat) : Int)
  · have hu8 := UInt8.toNat_lt (ql.getD qp 0)
    refine jW (cB (dT h_1)) <| jC <| kJ [cb qb qa qc ql qp (IntKind.i64.wrap ((IntKind.i64.wrap (qs * 6364136223846793005)) + 1442695040888963407))] 14 mixed (by simp) <| jL 0 rfl (jD (v := iv (Go.bits .and .i64 (Go.bits .xor .i64 ((IntKind.i64.wrap ((IntKind.i64.wrap (qs * 6364136223846793005)) + 1442695040888963407)) / 2 ^ (33 : Int).toNat) ((IntKind.i64.wrap ((IntKind.i64.wrap (qs * 6364136223846793005)) + 1442695040888963407)) / 2 ^ (45 : Int).toNat)) 255)) rfl) <| jL 1 rfl (jD (v := .pointer (some ⟨qb, 0, none⟩)) rfl) <| jL 2 rfl (PO.nilCheck rfl) <| jL 3 rfl (jQ fo133_0 rfl) <| jw 4 rfl (jZ 0 (v := .slice qa ql.length qc) rfl rfl Tryz.isAgg39 rfl) <| jL 5 rfl (jD (v := .pointer (some ⟨qb, 0, none⟩)) rfl) <| jL 6 rfl (PO.nilCheck rfl) ?_
    refine jL 7 rfl (jQ fo133_1 rfl) <| jw 8 rfl (jZ 0 (v := nv qp) rfl rfl kq rfl) ?_
    obtain ⟨hr_2, hr_2b, -⟩ := sees_some hs_qa (by omega)
    refine jL 9 rfl (jk (i := qp) kr gH hr_2 hr_2b rfl rfl (by omega)) <| jw 10 rfl (kY (v := .int .u8 (((ql.getD qp 0).toNat : Nat) : Int)) hs_qa (hpre.2) rfl Tryz.isAgg5 (atB (by omega))) <| jL 11 rfl (PO.convI (c := (((ql.getD qp 0).toNat : Nat) : Int)) kv gC rfl (wr (by omega))) <| jL 12 rfl (PO.addW rfl rfl) <| jL 13 rfl (PO.bits (by simp) rfl rfl) <| jL 14 rfl (jG (v := iv (Go.bits .and .i64 (IntKind.i64.wrap ((Go.bits .and .i64 (Go.bits .xor .i64 ((IntKind.i64.wrap ((IntKind.i64.wrap (qs * 6364136223846793005)) + 1442695040888963407)) / 2 ^ (33 : Int).toNat) ((IntKind.i64.wrap ((IntKind.i64.wrap (qs * 6364136223846793005)) + 1442695040888963407)) / 2 ^ (45 : Int).toNat)) 255) + (((ql.getD qp 0).toNat : Nat) : Int))) 255)) rfl) <| kI (by kernel_rfl) <| jB <| jF <| jA (jD (v := .pointer (some ⟨qb, 0, none⟩)) rfl) ?_
    refine jA (jD (v := .pointer (some ⟨qb, 0, none⟩)) rfl) <| jA (PO.nilCheck rfl) <| jA (jQ fo133_1 rfl) <| jK (jZ 0 (v := nv qp) rfl rfl kq rfl) <| jA (jc (c := ((qp + 1 : Nat) : Int)) rfl rfl (wr (by omega))) <| jA (PO.nilCheck rfl) <| jA (jQ fo133_1 rfl) ?_
    refine jH rfl (ja 0 (vs := [iv ((qp + 1 : Nat) : Int)]) (cs' := [.slice qa ql.length qc, iv ((qp + 1 : Nat) : Int), iv (IntKind.i64.wrap ((IntKind.i64.wrap (qs * 6364136223846793005)) + 1442695040888963407))]) rfl rfl rfl rfl gA rfl rfl (lb rfl) rfl) ?_
    rintro _ _ rfl
    refine jE <| jB <| jC <| jF <| jA (jD (v := iv (Go.bits .and .i64 (IntKind.i64.wrap ((Go.bits .and .i64 (Go.bits .xor .i64 ((IntKind.i64.wrap ((IntKind.i64.wrap (qs * 6364136223846793005)) + 1442695040888963407)) / 2 ^ (33 : Int).toNat) ((IntKind.i64.wrap ((IntKind.i64.wrap (qs * 6364136223846793005)) + 1442695040888963407)) / 2 ^ (45 : Int).toNat)) 255) + (((ql.getD qp 0).toNat : Nat) : Int))) 255)) rfl) <| jA (jG (v := iv (Go.bits .and .i64 (IntKind.i64.wrap ((Go.bits .and .i64 (Go.bits .xor .i64 ((IntKind.i64.wrap ((IntKind.i64.wrap (qs * 6364136223846793005)) + 1442695040888963407)) / 2 ^ (33 : Int).toNat) ((IntKind.i64.wrap ((IntKind.i64.wrap (qs * 6364136223846793005)) + 1442695040888963407)) / 2 ^ (45 : Int).toNat)) 255) + (((ql.getD qp 0).toNat : Nat) : Int))) 255)) rfl) <| jE <| jB <| jN <| jV (.inl rfl) rfl (jJ (v := iv (Go.bits .and .i64 (IntKind.i64.wrap ((Go.bits .and .i64 (Go.bits .xor .i64 ((IntKind.i64.wrap ((IntKind.i64.wrap (qs * 6364136223846793005)) + 1442695040888963407)) / 2 ^ (33 : Int).toNat) ((IntKind.i64.wrap ((IntKind.i64.wrap (qs * 6364136223846793005)) + 1442695040888963407)) / 2 ^ (45 : Int).toNat)) 255) + (((ql.getD qp 0).toNat : Nat) : Int))) 255)) rfl) (List.Sublist.refl _) ?_
    have hbb := and_bnd (IntKind.i64.wrap ((Go.bits .and .i64 (Go.bits .xor .i64 ((IntKind.i64.wrap ((IntKind.i64.wrap (qs * 6364136223846793005)) + 1442695040888963407)) / 2 ^ (33 : Int).toNat) ((IntKind.i64.wrap ((IntKind.i64.wrap (qs * 6364136223846793005)) + 1442695040888963407)) / 2 ^ (45 : Int).toNat)) 255) + (((ql.getD qp 0).toNat : Nat) : Int))) 255 (by decide) (by decide)
    obtain ⟨r0, hr0⟩ : ∃ r0 : Nat, Go.bits .and .i64 (IntKind.i64.wrap ((Go.bits .and .i64 (Go.bits .xor .i64 ((IntKind.i64.wrap ((IntKind.i64.wrap (qs * 6364136223846793005)) + 1442695040888963407)) / 2 ^ (33 : Int).toNat) ((IntKind.i64.wrap ((IntKind.i64.wrap (qs * 6364136223846793005)) + 1442695040888963407)) / 2 ^ (45 : Int).toNat)) 255) + (((ql.getD qp 0).toNat : Nat) : Int))) 255 = ((r0 : Nat) : Int) := ⟨(Go.bits .and .i64 (IntKind.i64.wrap ((Go.bits .and .i64 (Go.bits .xor .i64 ((IntKind.i64.wrap ((IntKind.i64.wrap (qs * 6364136223846793005)) + 1442695040888963407)) / 2 ^ (33 : Int).toNat) ((IntKind.i64.wrap ((IntKind.i64.wrap (qs * 6364136223846793005)) + 1442695040888963407)) / 2 ^ (45 : Int).toNat)) 255) + (((ql.getD qp 0).toNat : Nat) : Int))) 255).toNat, by omega⟩
    rw [hr0] at hbb
    exact ⟨(qp + 1), (IntKind.i64.wrap ((IntKind.i64.wrap (qs * 6364136223846793005)) + 1442695040888963407)), r0, by omega, by omega, congrArg (Value.int .i64) hr0, rfl⟩
  refine jR (cB (dF h_1)) <| jT <| jB <| jC <| jF <| jA (jD (v := iv (Go.bits .and .i64 (Go.bits .xor .i64 ((IntKind.i64.wrap ((IntKind.i64.wrap (qs * 6364136223846793005)) + 1442695040888963407)) / 2 ^ (33 : Int).toNat) ((IntKind.i64.wrap ((IntKind.i64.wrap (qs * 6364136223846793005)) + 1442695040888963407)) / 2 ^ (45 : Int).toNat)) 255)) rfl) <| jA (jG (v := iv (Go.bits .and .i64 (Go.bits .xor .i64 ((IntKind.i64.wrap ((IntKind.i64.wrap (qs * 6364136223846793005)) + 1442695040888963407)) / 2 ^ (33 : Int).toNat) ((IntKind.i64.wrap ((IntKind.i64.wrap (qs * 6364136223846793005)) + 1442695040888963407)) / 2 ^ (45 : Int).toNat)) 255)) rfl) <| jE <| jB <| jN ?_
  refine jV (.inl rfl) rfl (jJ (v := iv (Go.bits .and .i64 (Go.bits .xor .i64 ((IntKind.i64.wrap ((IntKind.i64.wrap (qs * 6364136223846793005)) + 1442695040888963407)) / 2 ^ (33 : Int).toNat) ((IntKind.i64.wrap ((IntKind.i64.wrap (qs * 6364136223846793005)) + 1442695040888963407)) / 2 ^ (45 : Int).toNat)) 255)) rfl) (List.Sublist.refl _) ?_
  have hbb := and_bnd (Go.bits .xor .i64 ((IntKind.i64.wrap ((IntKind.i64.wrap (qs * 6364136223846793005)) + 1442695040888963407)) / 2 ^ (33 : Int).toNat) ((IntKind.i64.wrap ((IntKind.i64.wrap (qs * 6364136223846793005)) + 1442695040888963407)) / 2 ^ (45 : Int).toNat)) 255 (by decide) (by decide)
  obtain ⟨r0, hr0⟩ : ∃ r0 : Nat, Go.bits .and .i64 (Go.bits .xor .i64 ((IntKind.i64.wrap ((IntKind.i64.wrap (qs * 6364136223846793005)) + 1442695040888963407)) / 2 ^ (33 : Int).toNat) ((IntKind.i64.wrap ((IntKind.i64.wrap (qs * 6364136223846793005)) + 1442695040888963407)) / 2 ^ (45 : Int).toNat)) 255 = ((r0 : Nat) : Int) := ⟨(Go.bits .and .i64 (Go.bits .xor .i64 ((IntKind.i64.wrap ((IntKind.i64.wrap (qs * 6364136223846793005)) + 1442695040888963407)) / 2 ^ (33 : Int).toNat) ((IntKind.i64.wrap ((IntKind.i64.wrap (qs * 6364136223846793005)) + 1442695040888963407)) / 2 ^ (45 : Int).toNat)) 255).toNat, by omega⟩
  rw [hr0] at hbb
  exact ⟨qp, (IntKind.i64.wrap ((IntKind.i64.wrap (qs * 6364136223846793005)) + 1442695040888963407)), r0, by omega, by omega, congrArg (Value.int .i64) hr0, rfl⟩

theorem D_below (qb : Nat) (qa : Option Addr) (qc : Nat) (ql : Str) (qp : Nat) (qs : Int) (hql : ql.length ≤ 1048576) (hqp : qp ≤ ql.length) (k : Int) (hk : -9223372036854775808 ≤ k ∧ k ≤ 9223372036854775807) :
    Ct Tryz.prog 73 [.pointer (some ⟨qb, 0, none⟩), .int .i64 k] [cb qb qa qc ql qp qs] (fun w => seesC w qa qc ql [cb qb qa qc ql qp qs]) (fun v A' => ∃ qp' qs' r0, qp' ≤ ql.length ∧ (((r0 : Nat) : Int) < k ∨ r0 = 0) ∧ v = .int .i64 ((r0 : Nat) : Int) ∧ A' = [cb qb qa qc ql qp' qs']) := by
  refine Ct.intro Tryz.func73 rfl Tryz.ntmps73 (lb rfl) fun w0 hpre => ?_
  have hs_qa : Sees w0 _ _ _ _ := hpre.1
  refine jC <| jF <| jA (jG (v := iv 0) rfl) <| jE <| jB <| jC <| jC <| jF <| jA (jD (v := iv k) rfl) <| jA (PO.leq rfl rfl) ?_
  refine jE <| jB ?_
  by_cases h_1 : k ≤ 0
  · refine jW (cB (dT h_1)) <| jC <| jF <| jA (jG (v := iv 0) rfl) <| jE <| jB <| jN <| jX <| jV (.inl rfl) rfl (jJ (v := iv 0) rfl) (List.Sublist.refl _) ?_
    exact ⟨qp, qs, 0, (by omega), (.inr rfl), rfl, rfl⟩
  obtain ⟨kk, hkk⟩ : ∃ kk : Nat, k = ((kk : Nat) : Int) := ⟨k.toNat, by omega⟩
  refine jR (cB (dF h_1)) <| jT <| jB <| jC <| jC <| jF <| jA (jD (v := nv kk) (congrArg (Value.int .i64) hkk)) <| jA (PO.leq rfl rfl) <| jE <| jB ?_
  by_cases h_2 : ((kk : Nat) : Int) ≤ 256
  · refine jW (cB (dT h_2)) <| jC <| jF <| jA (jD (v := .pointer (some ⟨qb, 0, none⟩)) rfl) ?_
    refine jH rfl (jI [0] Tryz.call119 rfl (D_byte qb qa qc ql qp qs (by omega) (by omega)) rfl (fun w hw => ⟨hw.seeOut_ hs_qa (hpre.2), hw.apart hs_qa (hpre.2) (by simp)⟩)) ?_
    rintro _ _ ⟨_, ⟨qp_3, qs_4, n_6, fq_5, f_7, rfl, rfl⟩, rfl⟩
    refine jA (jD (v := nv kk) (congrArg (Value.int .i64) hkk)) <| jA (PO.remN (c := ((n_6 % kk : Nat) : Int)) rfl rfl (by omega) (by omega) (by omega)) <| jA (jG (v := iv ((n_6 % kk : Nat) : Int)) rfl) <| jE <| jB <| jN <| jX <| jV (.inl rfl) rfl (jJ (v := iv ((n_6 % kk : Nat) : Int)) rfl) (List.Sublist.refl _) ?_
    exact ⟨qp_3, qs_4, (n_6 % kk), (by omega), (.inl (by have hm_ := Nat.mod_lt (n_6) (show 0 < kk by omega); omega)), rfl, rfl⟩
  refine jR (cB (dF h_2)) <| jT <| jB <| jC <| jF <| jA (jD (v := .pointer (some ⟨qb, 0, none⟩)) rfl) ?_
  refine jH rfl (jI [0] Tryz.call119 rfl (D_byte qb qa qc ql qp qs (by omega) (by omega)) rfl (fun w hw => ⟨hw.seeOut_ hs_qa (hpre.2), hw.apart hs_qa (hpre.2) (by simp)⟩)) ?_
  rintro _ _ ⟨_, ⟨qp_9, qs_10, n_12, fq_11, f_13, rfl, rfl⟩, rfl⟩
  refine jA (jG (v := nv n_12) rfl) <| jE <| jB <| jC <| jF <| jA (jD (v := .pointer (some ⟨qb, 0, none⟩)) rfl) ?_
  refine jH rfl (jI [0] Tryz.call119 rfl (D_byte qb qa qc ql qp_9 qs_10 (by omega) (by omega)) rfl (fun w hw => ⟨hw.seeOut_ hs_qa (hpre.2), hw.apart hs_qa (hpre.2) (by simp)⟩)) ?_
  rintro _ _ ⟨_, ⟨qp_15, qs_16, n_18, fq_17, f_19, rfl, rfl⟩, rfl⟩
  refine jA (jG (v := nv n_18) rfl) <| jE <| jB <| jC <| jF <| jA (jD (v := .pointer (some ⟨qb, 0, none⟩)) rfl) ?_
  refine jH rfl (jI [0] Tryz.call119 rfl (D_byte qb qa qc ql qp_15 qs_16 (by omega) (by omega)) rfl (fun w hw => ⟨hw.seeOut_ hs_qa (hpre.2), hw.apart hs_qa (hpre.2) (by simp)⟩)) ?_
  rintro _ _ ⟨_, ⟨qp_21, qs_22, n_24, fq_23, f_25, rfl, rfl⟩, rfl⟩
  refine jA (jG (v := nv n_24) rfl) <| jE <| jB <| jC <| jF <| jA (jD (v := .pointer (some ⟨qb, 0, none⟩)) rfl) ?_
  refine jH rfl (jI [0] Tryz.call119 rfl (D_byte qb qa qc ql qp_21 qs_22 (by omega) (by omega)) rfl (fun w hw => ⟨hw.seeOut_ hs_qa (hpre.2), hw.apart hs_qa (hpre.2) (by simp)⟩)) ?_
  rintro _ _ ⟨_, ⟨qp_27, qs_28, n_30, fq_29, f_31, rfl, rfl⟩, rfl⟩
  refine jA (jG (v := nv n_30) rfl) <| jE <| jB <| jC <| jF <| jA (jD (v := nv n_12) rfl) <| jA (PO.mul (c := ((n_12 * 16777216 : Nat) : Int)) rfl rfl (wr (by omega))) <| jA (jD (v := nv n_18) rfl) <| jA (PO.mul (c := ((n_18 * 65536 : Nat) : Int)) rfl rfl (wr (by omega))) <| jA (jc (c := (((n_12 * 16777216) + (n_18 * 65536) : Nat) : Int)) rfl rfl (wr (by omega))) ?_
  refine jA (jD (v := nv n_24) rfl) <| jA (PO.mul (c := ((n_24 * 256 : Nat) : Int)) rfl rfl (wr (by omega))) <| jA (jc (c := ((((n_12 * 16777216) + (n_18 * 65536)) + (n_24 * 256) : Nat) : Int)) rfl rfl (wr (by omega))) <| jA (jD (v := nv n_30) rfl) <| jA (jc (c := (((((n_12 * 16777216) + (n_18 * 65536)) + (n_24 * 256)) + n_30 : Nat) : Int)) rfl rfl (wr (by omega))) <| jA (jD (v := nv kk) (congrArg (Value.int .i64) hkk)) <| jA (PO.remN (c := ((((((n_12 * 16777216) + (n_18 * 65536)) + (n_24 * 256)) + n_30) % kk : Nat) : Int)) rfl rfl (by omega) (by omega) (by omega)) <| jA (jG (v := iv ((((((n_12 * 16777216) + (n_18 * 65536)) + (n_24 * 256)) + n_30) % kk : Nat) : Int)) rfl) <| jE <| jB ?_
  refine jN <| jV (.inl rfl) rfl (jJ (v := iv ((((((n_12 * 16777216) + (n_18 * 65536)) + (n_24 * 256)) + n_30) % kk : Nat) : Int)) rfl) (List.Sublist.refl _) ?_
  exact ⟨qp_27, qs_28, (((((n_12 * 16777216) + (n_18 * 65536)) + (n_24 * 256)) + n_30) % kk), (by omega), (.inl (by have hm_ := Nat.mod_lt (((((n_12 * 16777216) + (n_18 * 65536)) + (n_24 * 256)) + n_30)) (show 0 < kk by omega); omega)), rfl, rfl⟩

theorem D_new (pa : Option Addr) (pc : Nat) (p : Str) (hp : p.length ≤ 1048576)  :
    Ct Tryz.prog 72 [.slice pa p.length pc] [] (fun w => Sees w (.slice pa p.length pc) 1 p.length (p.map encB)) (fun v A' => ∃ r0 r0s, True ∧ v = .pointer (some ⟨r0, 0, none⟩) ∧ A' = [cb r0 pa pc p 0 r0s]) := by
  refine Ct.intro Tryz.func72 rfl Tryz.ntmps72 (lb rfl) fun w0 hpre => ?_
  have hs_pa : Sees w0 _ _ _ _ := hpre
  refine jC <| jF <| jA (jG (v := .pointer none) rfl) <| jE <| jB <| jC <| jF <| jA (jD (v := .slice pa p.length pc) rfl) <| jA (jr kr rfl) <| jA (jc (c := ((94701 + p.length : Nat) : Int)) rfl rfl (wr (by omega))) ?_
  refine jA (jG (v := iv ((94701 + p.length : Nat) : Int)) rfl) <| jE <| jB <| jC <| jC <| jF <| jA (jG (v := iv 0) rfl) <| jE <| jB <| jf ?_
  refine kD (fun k_ e_ L_ => ∃ i_ : Nat, ∃ s_ : Int, (i_ ≤ p.length) ∧ (0 ≤ s_ ∧ s_ ≤ 1073741823) ∧ e_ 0 = .slice pa p.length pc ∧ e_ 2 = .pointer none ∧ e_ 3 = iv s_ ∧ e_ 4 = nv i_ ∧ L_ = [] ∧ k_ = 1048577 - i_) _ ⟨0, ((94701 + p.length : Nat) : Int), (by omega), (by omega), rfl, rfl, rfl, rfl, rfl, rfl⟩ ?_
  rintro _ e_1 _ ⟨i_, s_, hi, hs, he_2, he_3, he_4, he_5, rfl, rfl⟩
  refine jC <| jC <| jF <| jA (jD (v := nv i_) he_5) <| jA (jD (v := .slice pa p.length pc) he_2) <| jA (jr kr rfl) <| jA (jl rfl rfl) <| jA (jD (v := .bool (decide (((i_ : Nat) : Int) < ((p.length : Nat) : Int)))) rfl) ?_
  by_cases h_6 : ((i_ : Nat) : Int) < ((p.length : Nat) : Int)
  · have hu8 := UInt8.toNat_lt (p.getD i_ 0)
    refine jM rfl rfl rfl (cB (dT h_6)) (jP (jU (jD (v := nv i_) he_5))) ?_
    rintro _ _ ⟨rfl, rfl⟩
    refine jM rfl rfl rfl (cB (dT h_6)) (jP (jU (jl rfl rfl))) ?_
    rintro _ _ ⟨rfl, rfl⟩
    refine jA (jh (v := .bool (decide (((i_ : Nat) : Int) < 4000))) (cB (dT h_6)) rfl) <| jE <| jB ?_
    by_cases h_7 : ((i_ : Nat) : Int) < 4000
    · refine jW (cB (dT h_7)) <| jT <| jB <| jC <| jf <| jF <| jA (jD (v := iv s_) he_4) <| jA (PO.mul (c := s_ * 131) rfl rfl (wr (by omega))) <| jA (jD (v := .slice pa p.length pc) he_2) <| jA (jD (v := nv i_) he_5) ?_
      obtain ⟨hr_8, hr_8b, -⟩ := sees_some hs_pa (by omega)
      refine jA (jk (i := i_) kr gH hr_8 hr_8b rfl rfl (by omega)) <| jK (kY (v := .int .u8 (((p.getD i_ 0).toNat : Nat) : Int)) hs_pa nM rfl Tryz.isAgg5 (atB (by omega))) <| jA (PO.convI (c := (((p.getD i_ 0).toNat : Nat) : Int)) kv gC rfl (wr (by omega))) <| jA (jc (c := (s_ * 131) + (((p.getD i_ 0).toNat : Nat) : Int)) rfl rfl (wr (by omega))) <| jA (jc (c := ((s_ * 131) + (((p.getD i_ 0).toNat : Nat) : Int)) + 7) rfl rfl (wr (by omega))) <| jA (PO.bits (by simp) rfl rfl) <| jA (jG (v := iv (Go.bits .and .i64 (((s_ * 131) + (((p.getD i_ 0).toNat : Nat) : Int)) + 7) 1073741823)) rfl) <| jE <| jm <| jB ?_
      refine jF <| jA (jD (v := nv i_) he_5) <| jA (jc (c := ((i_ + 1 : Nat) : Int)) rfl rfl (wr (by omega))) <| jA (jG (v := iv ((i_ + 1 : Nat) : Int)) rfl) <| jE <| kB [] (A := []) rfl ?_
      refine jq (1048577 - (i_ + 1)) (by omega) ⟨(i_ + 1), (Go.bits .and .i64 (((s_ * 131) + (((p.getD i_ 0).toNat : Nat) : Int)) + 7) 1073741823), (by omega), (and_bnd _ _ (by decide) (by decide)), he_2, he_3, rfl, rfl, rfl, rfl⟩
    refine jR (cB (dF h_7)) <| jx <| jb <| jb <| jy <| jB <| jC <| jF <| jA (jD (v := .slice pa p.length pc) he_2) <| jA (jD (v := iv s_) he_4) ?_
    refine jA (kW (ps := [(0, .slice pa p.length pc), (2, iv s_)]) (cs := [.slice pa p.length pc, iv 0, iv s_]) rfl (by kernel_rfl)) ?_
    refine jH rfl (kG (cs := [.slice pa p.length pc, iv 0, iv s_]) rfl rfl) ?_
    rintro _ _ ⟨b_9, rfl, rfl⟩
    refine jA (jG (v := .pointer (some ⟨b_9, 0, none⟩)) rfl) <| jE <| jB <| jN <| jV (.inl rfl) rfl (jJ (v := .pointer (some ⟨b_9, 0, none⟩)) rfl) (List.Sublist.refl _) ?_
    exact ⟨b_9, s_, trivial, rfl, rfl⟩
  refine jS (b := false) rfl rfl rfl (cB (dF h_6)) <| jS (b := false) rfl rfl rfl (cB (dF h_6)) <| jA (ji (v := .bool false) (cB (dF h_6)) rfl) <| jE <| jB <| jR (cB rfl) <| jx <| jb <| jb <| jy ?_
  refine jB <| jC <| jF <| jA (jD (v := .slice pa p.length pc) he_2) <| jA (jD (v := iv s_) he_4) <| jA (kW (ps := [(0, .slice pa p.length pc), (2, iv s_)]) (cs := [.slice pa p.length pc, iv 0, iv s_]) rfl (by kernel_rfl)) ?_
  refine jH rfl (kG (cs := [.slice pa p.length pc, iv 0, iv s_]) rfl rfl) ?_
  rintro _ _ ⟨b_10, rfl, rfl⟩
  refine jA (jG (v := .pointer (some ⟨b_10, 0, none⟩)) rfl) <| jE <| jB <| jN <| jV (.inl rfl) rfl (jJ (v := .pointer (some ⟨b_10, 0, none⟩)) rfl) (List.Sublist.refl _) ?_
  exact ⟨b_10, s_, trivial, rfl, rfl⟩

end Go.Proofs.YtjncpgcccgdeiaaGreatDoor

set_option linter.unusedSimpArgs false
set_option linter.unusedVariables false
set_option linter.unnecessarySimpa false
namespace Go.Proofs.YtjncpgcccgdeiaaGreatDoor
open Go Go.RowKit

theorem getKey_app {key : Str} : ∀ (a b : List Cell), (∀ c ∈ a, ¬ c.1 = key) → getKey (a ++ b) key = getKey b key
  | [], b, _ => rfl
  | c :: a, b, h => by
    rw [List.cons_append, getKey, if_neg (h c (List.mem_cons_self ..)), getKey_app a b (fun d hd => h d (List.mem_cons_of_mem _ hd))]
theorem getKey_ins {key val : Str} {f : List Cell} (h : ∀ c ∈ f, ¬ c.1 = key) (i : Nat) : getKey (insertAt i (key, val) f) key = val := by
  unfold insertAt
  first
  | (rw [List.append_assoc, getKey_app _ _ (fun c hc => h c (List.mem_of_mem_take hc)), List.cons_append, getKey, if_pos rfl])
  | (rw [getKey_app _ _ (fun c hc => h c (List.mem_of_mem_take hc)), getKey, if_pos rfl])
theorem getKey_put {s : List Cell} {key val : Str} (hk : keyOk key = true) (hv : ¬ val = []) (hl : val.length ≤ 60) : getKey (putKey s key val) key = val := by
  unfold putKey
  rw [hk, decide_eq_false (by omega)]
  simp only [Bool.not_true, Bool.false_or, Bool.or_false, Bool.false_eq_true, if_false, if_neg hv]
  exact getKey_ins (fun c hc => by simpa using (List.mem_filter.1 hc).2) _
end Go.Proofs.YtjncpgcccgdeiaaGreatDoor

set_option linter.unusedSimpArgs false
set_option linter.unusedVariables false
set_option linter.unnecessarySimpa false
namespace Go.Proofs.YtjncpgcccgdeiaaGreatDoor
open Go Go.RowKit
theorem okC'.okC {n k : Nat} {s : List Cell} (h : okC' n k s) (hn : n ≤ 1000000000) (hk : k ≤ 1000000000) : okC s := short_okC (fun c hc => ⟨by have := (h.2 c hc).1; omega, by have := (h.2 c hc).2; omega⟩) (by have := h.1; omega)
theorem new_okz {s : List Cell} (h : okC s) : (DD.new s).okz := by
  refine ⟨by show 2 ≤ _; decide, fun x hx => ?_, Nat.zero_le _⟩
  simp only [DD.new, List.mem_cons, List.not_mem_nil, or_false] at hx
  rcases hx with rfl | rfl
  · exact ⟨h⟩
  · exact ⟨⟨Nat.zero_le _, fun j hj => absurd hj (Nat.not_lt_zero j)⟩⟩
theorem new_lim {s : List Cell} {n : Nat} (h : s.length ≤ n) (hn : 2 ≤ n) : (DD.new s).lim n := by
  refine ⟨hn, fun x hx => ?_⟩
  simp only [DD.new, List.mem_cons, List.not_mem_nil, or_false] at hx
  rcases hx with rfl | rfl
  · exact ⟨h⟩
  · exact ⟨Nat.zero_le _⟩
theorem foldB_len (d : DD) : d.foldB.1.slots.length = d.slots.length := by
  unfold DD.foldB
  split
  · exact List.length_set
  · rfl
theorem foldE_len (d : DD) : d.foldE.1.slots.length = d.slots.length := by
  unfold DD.foldE
  split
  · exact List.length_set
  · rfl
theorem foldB_jlen {d : DD} {n : Nat} (h : d.jt.length ≤ n) : d.foldB.1.jt.length ≤ n := by
  unfold DD.foldB
  split
  · simp only [List.length_take]; omega
  · exact h
theorem foldE_jlen {d : DD} {n : Nat} (h : d.jt.length ≤ n) : d.foldE.1.jt.length ≤ n := by
  unfold DD.foldE
  split <;> exact h
/-- What is told of a drawn disk. -/
structure Drawn (d : DX) : Prop where
  z : d.dat.okz
  l : d.dat.lim 1000000000
  j : d.jt.length ≤ 100000
structure Drawn2 (d : DX) : Prop extends Drawn d where
  n : d.l.length = 2
theorem Drawn.of {d y : DX} (h : Drawn d) (h1 : y.l.map OX.t = d.l.map OX.t) (h2 : y.jt.length ≤ 100000) : Drawn y := by
  refine ⟨⟨?_, ?_, ?_⟩, ⟨?_, ?_⟩, h2⟩
  · show (y.l.map OX.t).length ≤ _; rw [h1]; exact h.z.k0
  · show ∀ s ∈ y.l.map OX.t, _; rw [h1]; exact h.z.k1
  · show y.jt.length ≤ _; omega
  · show (y.l.map OX.t).length ≤ _; rw [h1]; exact h.l.l0
  · show ∀ s ∈ y.l.map OX.t, _; rw [h1]; exact h.l.l1
theorem len_map {d e : DX} (h : d.dat.slots.length = e.dat.slots.length) : d.l.length = e.l.length := by simpa only [DX.dat, List.length_map] using h
theorem drawn_new {y : DX} {s : List Cell} (h : y.dat = DD.new s) (hs : okC' 9 64 s) : Drawn2 y := by
  have hj : y.jt = [] := congrArg DD.jt h
  refine ⟨⟨by rw [h]; exact new_okz (hs.okC (by decide) (by decide)), by rw [h]; exact new_lim (by have := hs.1; omega) (by decide), by rw [hj]; exact Nat.zero_le _⟩, ?_⟩
  have := congrArg (fun q : DD => q.slots.length) h
  simpa only [DX.dat, List.length_map, DD.new, List.length_cons, List.length_nil] using this
theorem Drawn2.of {d y : DX} (h : Drawn2 d) (h1 : y.l = d.l) (h2 : y.jt.length ≤ 100000) : Drawn2 y := ⟨h.toDrawn.of (by rw [h1]) h2, by rw [h1]; exact h.n⟩
theorem Drawn2.foldB {d y : DX} (h : Drawn2 d) (hy : y.dat = d.dat.foldB.1) : Drawn2 y := by
  have hj : y.jt = d.dat.foldB.1.jt := congrArg DD.jt hy
  refine ⟨⟨by rw [hy]; exact foldB_okz h.z, by rw [hy]; exact foldB_lim h.z h.l (by decide), by rw [hj]; exact foldB_jlen h.j⟩, ?_⟩
  rw [len_map (d := y) (e := d) (by rw [hy, foldB_len])]
  exact h.n
theorem Drawn2.foldE {d y : DX} (h : Drawn2 d) (hy : y.dat = d.dat.foldE.1) : Drawn2 y := by
  have hj : y.jt = d.dat.foldE.1.jt := congrArg DD.jt hy
  refine ⟨⟨by rw [hy]; exact foldE_okz h.z, by rw [hy]; exact foldE_lim h.l, by rw [hj]; exact foldE_jlen h.j⟩, ?_⟩
  rw [len_map (d := y) (e := d) (by rw [hy, foldE_len])]
  exact h.n
theorem Drawn.take {d : DX} {a : Option Addr} {c i : Nat} (h : Drawn d) : Drawn (⟨a, c, d.l.take i, d.jt, d.js⟩ : DX) := by
  have hm : ∀ s ∈ (d.l.take i).map OX.t, s ∈ d.dat.slots := fun s hs => by
    obtain ⟨x, hx, rfl⟩ := List.mem_map.1 hs
    exact List.mem_map_of_mem (List.mem_of_mem_take hx)
  have hn : ((d.l.take i).map OX.t).length ≤ d.dat.slots.length := by simp only [DX.dat, List.length_map, List.length_take]; omega
  exact ⟨⟨Nat.le_trans hn h.z.k0, fun s hs => h.z.k1 s (hm s hs), h.z.k2⟩, ⟨Nat.le_trans hn h.l.l0, fun s hs => h.l.l1 s (hm s hs)⟩, h.j⟩
attribute [local irreducible] JL JC JQ JO LO PO JA JX Ct

end Go.Proofs.YtjncpgcccgdeiaaGreatDoor

set_option linter.unusedSimpArgs false
set_option linter.unusedVariables false
set_option linter.unnecessarySimpa false
namespace Go.Proofs.YtjncpgcccgdeiaaGreatDoor
open Go Go.RowKit
section
variable {P : Program} {ops : Array Oper} {Q : Exit → Act → World → Prop} {n : Nat} {w0 : World} {D : List Nat} {L M : List Res} {e : Env} {z fuel : Nat} {listed : Array Bool}
end
section
variable {P : Program} {n : Nat} {e : Env} {d : Option Tmp} {ty : TypeId} {pos : String} {aft : Array Edge} {gd : Option (Nat × Bool)}
end
attribute [local irreducible] JL JC JQ JO LO PO JA JX Ct

theorem N_big (pa : Option Addr) (pc : Nat) (p : Str) :
    Ct Tryz.prog 24 [.slice pa p.length pc] [] (fun _ => True) (fun v A' => v = .bool (decide (1048576 < ((p.length : Nat) : Int))) ∧ A' = []) := by
  refine Ct.intro Tryz.func24 rfl Tryz.ntmps24 (lb rfl) fun w0 hpre => ?_
  refine jC <| jF <| jA (jG (v := .bool false) rfl) <| jE <| jB <| jC <| jF <| jA (jD (v := .slice pa p.length pc) rfl) <| jA (jr kr rfl) <| jA (kR rfl rfl) ?_
  refine jA (jG (v := .bool (decide (1048576 < ((p.length : Nat) : Int)))) rfl) <| jE <| jB <| jN <| jV (.inl rfl) rfl (jJ (v := .bool (decide (1048576 < ((p.length : Nat) : Int)))) rfl) (List.nil_sublist _) ?_
  exact ⟨rfl, rfl⟩

end Go.Proofs.YtjncpgcccgdeiaaGreatDoor

set_option linter.unusedSimpArgs false
set_option linter.unusedVariables false
set_option linter.unnecessarySimpa false
namespace Go.Proofs.YtjncpgcccgdeiaaGreatDoor
open Go Go.RowKit
theorem dec_fig {n : Int} (h : 0 ≤ n) : ∀ x ∈ dec n, 48 ≤ x.toNat ∧ x.toNat ≤ 57 := by
  intro x hx
  unfold dec Lib.itoa at hx
  rw [if_neg (by omega)] at hx
  exact digits_no _ _ (Nat.le_refl _) x hx
theorem dec_no10 {n : Int} (h : 0 ≤ n) : ∀ x ∈ dec n, x ≠ 10 := by
  intro x hx
  have := dec_fig h x hx
  rintro rfl
  revert this
  decide
theorem rows_no10 (l : List Cell) : ∀ x ∈ l.flatMap recRow, x ≠ 10 := by
  intro x hx
  obtain ⟨c, _, hc⟩ := List.mem_flatMap.1 hx
  simp only [recRow, List.append_assoc, List.mem_append, List.mem_singleton] at hc
  rcases hc with rfl | hc | rfl | hc
  · decide
  · exact (hexB_ne _ _ hc).2.2
  · decide
  · exact (hexB_ne _ _ hc).2.2
section
variable {seq : Int} {l : List Cell}
theorem rec_shape (h : recText seq l ≠ []) : 1 ≤ seq ∧ seq ≤ 100000 ∧ ∃ b, b = dec seq ++ l.flatMap recRow ∧ recText seq l = b ++ [32, 35] ++ dec ((byteSum b : Nat) : Int) ++ [10] := by
  unfold recText at h ⊢
  split at h
  · rename_i hw
    have hw2 := (show 1 ≤ seq ∧ seq ≤ 100000 by simpa only [within, Bool.and_eq_true, decide_eq_true_eq] using hw)
    rw [if_pos hw]
    obtain ⟨b, hb, he⟩ := recGo_some l (dec seq) h
    exact ⟨hw2.1, hw2.2, b, hb, he⟩
  · exact absurd rfl h
theorem rec_line (h : recText seq l ≠ []) : isLine (recText seq l) := by
  obtain ⟨h1, h2, b, hb, he⟩ := rec_shape h
  refine ⟨b ++ [32, 35] ++ dec ((byteSum b : Nat) : Int), fun x hx => ?_, he⟩
  simp only [List.append_assoc, List.mem_append, List.mem_cons, List.not_mem_nil, or_false] at hx
  rw [hb] at hx
  simp only [List.mem_append] at hx
  rcases hx with (hx | hx) | (rfl | rfl) | hx
  · exact dec_no10 (by omega) x hx
  · exact rows_no10 l x hx
  · decide
  · decide
  · exact dec_no10 (Int.natCast_nonneg _) x hx
theorem recTextL (seq : Int) (l : List Cell) : (recText seq l).length ≤ 4000 := by
  have hg : ∀ (l : List Cell) (b : Str), (recGo b l).length ≤ 4000 := by
    intro l
    induction l with
    | nil =>
      intro b
      unfold recGo recEnd
      split
      · exact Nat.zero_le _
      · omega
    | cons c l ih =>
      intro b
      unfold recGo
      split
      · exact Nat.zero_le _
      · exact ih _
  unfold recText
  split
  · exact hg _ _
  · exact Nat.zero_le _
theorem readWord_rec {c : Cell} (h1 : c.1.length ≤ 20000) (h2 : c.2.length ≤ 20000) : readWord (hexB c.1 ++ [61] ++ hexB c.2) = c := by
  have hu : ∀ r : Str, r.length ≤ 20000 → unhex (hexB r) = (r, true) := fun r hr => by
    unfold unhex
    rw [if_neg (by rw [hexB_len]; omega), unhexL_hexB]
  have hc : cutB 61 (hexB c.1 ++ [61] ++ hexB c.2) = (hexB c.1, hexB c.2) := by
    rw [List.append_assoc, List.singleton_append]
    exact cutB_app _ fun x hx => (hexB_ne _ _ hx).2.1
  rw [readWord, hc, hu _ h1, hu _ h2]
theorem rec_read (hs : readDec (dec seq) = (seq, true)) (h : recText seq l ≠ []) (hl : ∀ c ∈ l, c.1.length ≤ 20000 ∧ c.2.length ≤ 20000) : readI (recText seq l) = (seq, l, true) := by
  have hm := mids_rec rfl h
  have hlen := recTextL seq l
  obtain ⟨h1, h2, b, hb, he⟩ := rec_shape h
  have hsp : (splitB 32 (recText seq l)).getD 0 [] = dec seq := by
    have e : recText seq l = dec seq ++ l.flatMap recRow ++ 32 :: (35 :: dec ((byteSum b : Nat) : Int) ++ [10]) := by
      rw [he, hb]
      simp only [List.append_assoc, List.cons_append, List.nil_append]
    rw [e, split_rows l (dec seq) _ (dec_no32 (by omega)) (fun x hx => by
      simp only [List.cons_append, List.mem_cons, List.mem_append, List.not_mem_nil, or_false] at hx
      rcases hx with rfl | hx | rfl
      · decide
      · exact dec_no32 (Int.natCast_nonneg _) x hx
      · decide)]
    rfl
  have hw : (midsOf (splitB 32 (recText seq l))).map readWord = l := by
    rw [hm, List.map_map]
    have : ∀ c ∈ l, (readWord ∘ fun c : Cell => hexB c.1 ++ [61] ++ hexB c.2) c = id c := fun c hc => readWord_rec (hl c hc).1 (hl c hc).2
    rw [List.map_congr_left this, List.map_id]
  unfold readI
  rw [if_neg (by omega), hsp, hs, hw, if_neg]
  rintro (h3 | h3)
  · exact h h3
  · exact h3 rfl
end
theorem one_ne {seq : Int} {k v : Str} (h1 : 1 ≤ seq) (h2 : seq ≤ 100000) (hk : keyOk k = true) (hv : v.length ≤ 60) : recText seq [(k, v)] ≠ [] := by
  have hd := dec_len (n := seq) (by omega) (by omega)
  have hk2 := keyOk_len hk
  have hx := hexB_len k
  have hy := hexB_len v
  unfold recText
  rw [if_pos (within_of h1 h2), recGo, if_neg]
  · rw [recGo, recEnd]
    have hs := byteSum_lo (dec seq ++ recRow (k, v))
    have hd2 := dec_len (n := ((byteSum (dec seq ++ recRow (k, v)) : Nat) : Int)) (by omega) (by omega)
    rw [if_neg]
    · simp
    · simp only [recRow, List.length_append, List.length_cons, List.length_nil] at *
      omega
  · simp only [recBad, hk, Bool.not_true, Bool.false_or, Bool.or_eq_true, decide_eq_true_eq]
    omega
/- journals of one and of two records -/
section
variable {l1 l2 : List Cell} {a b : Str}
theorem lines_one (ha : isLine a) : linesOf a = [a] := by
  have := lines_flat [a] [] (fun x hx => by rw [List.mem_singleton] at hx; rw [hx]; exact ha) (fun _ h => by cases h)
  simpa using this
theorem lines_pair (ha : isLine a) (hb : isLine b) : linesOf (a ++ b) = [a, b] := by
  have := lines_flat [a, b] [] (fun x hx => by
    simp only [List.mem_cons, List.not_mem_nil, or_false] at hx
    rcases hx with rfl | rfl
    · exact ha
    · exact hb) (fun _ h => by cases h)
  simpa using this
theorem recs_1 (ha : isLine a) (hr : readI a = (1, l1, true)) : recsOf a 1 = ([l1], a.length) := by
  rw [recsOf, if_pos (by decide), lines_one ha]
  simp [recsG, hr]
theorem recs_12 (ha : isLine a) (hb : isLine b) (hr : readI a = (1, l1, true)) (hr2 : readI b = (2, l2, true)) : recsOf (a ++ b) 1 = ([l1, l2], a.length + b.length) := by
  rw [recsOf, if_pos (by decide), lines_pair ha hb]
  simp [recsG, hr, hr2]
theorem trim_12 (ha : isLine a) (hb : isLine b) (hr : readI a = (1, l1, true)) (hr2 : readI b = (2, l2, true)) : trimN 1 (linesOf (a ++ b)) = a.length := by
  rw [lines_pair ha hb]
  simp [trimN, hr, hr2]
end
/-- A new disk with one record, folded. -/
theorem one_begun {k v r : Str} {j : Int} (hk : keyOk k = true) (hv0 : v ≠ []) (hv : v.length ≤ 60) (hr : r = recText 1 [(k, v)]) (hj : 0 ≤ j) (hj2 : j ≤ ((r.length : Nat) : Int)) :
    (DD.foldB ⟨[⟨0, [], true⟩, ⟨0, [], false⟩], r, j⟩) = (⟨[⟨0, [], true⟩, ⟨1, [(k, v)], false⟩], r, ((r.length : Nat) : Int)⟩, true) ∧ isLine r ∧ readI r = (1, [(k, v)], true) ∧ 0 < r.length ∧ r.length ≤ 4000 ∧ storeOk [(k, v)] = true := by
  have hk2 := keyOk_len hk
  have hne := one_ne (seq := 1) (by decide) (by decide) hk hv
  have hli := rec_line hne
  have hrd := rec_read (seq := 1) (l := [(k, v)]) (by decide +kernel) hne (fun c hc => by rw [List.mem_singleton] at hc; subst hc; exact ⟨by show k.length ≤ _; omega, by show v.length ≤ _; omega⟩)
  have hlen := recTextL 1 [(k, v)]
  rw [← hr] at hne hli hrd hlen
  have hpos : 0 < r.length := List.length_pos_iff.2 hne
  have hso : storeOk [(k, v)] = true := by
    have hvp : 0 < v.length := List.length_pos_iff.2 hv0
    have hg : storeG [(k, v)] 0 = true := by
      simp only [storeG, List.getD_cons_zero, hk, Bool.true_and, Bool.and_eq_true]
      exact ⟨within_of (by omega) (by omega), by simp⟩
    simp only [storeOk, Bool.and_eq_true, decide_eq_true_eq]
    refine ⟨?_, by simp⟩
    show rall 1 _ = true
    simp [rall, List.range_succ, hg]
  have hok : diskOk ⟨[⟨0, [], true⟩, ⟨0, [], false⟩], r, j⟩ = true := diskOk2.2 ⟨.inl rfl, by decide, rfl, jour_mk (by omega) hj hj2⟩
  have hb : bst ⟨0, [], true⟩ ⟨0, [], false⟩ = ⟨0, [], true⟩ := rfl
  have hrec := recov2 hok
  rw [hb] at hrec
  have hrs := recs_1 hli hrd
  have hput : putKey [] k v = [(k, v)] := by
    rw [putKey_ins hk (by omega) hv0]
    simp [insertAt, findAt]
  have hrec2 : DD.recov ⟨[⟨0, [], true⟩, ⟨0, [], false⟩], r, j⟩ = ([(k, v)], 1) := by
    rw [hrec]
    show (applyAll [] (recsOf r (0 + 1)).1, (0 : Int) + (((recsOf r (0 + 1)).1.length : Nat) : Int)) = _
    rw [show (0 : Int) + 1 = 1 from rfl, hrs]
    simp [applyAll, applyR, hput]
  have hm : mostOf ⟨[⟨0, [], true⟩, ⟨0, [], false⟩], r, j⟩ = 0 := by rw [most2 (.inl rfl), hb]
  have hq : bestD ⟨[⟨0, [], true⟩, ⟨0, [], false⟩], r, j⟩ = 0 := by rw [bestD2]; simp
  refine ⟨?_, hli, hrd, hpos, hlen, hso⟩
  rw [foldB_yes ⟨hok, by rw [hrec2]; show ¬ (99999 : Int) < 1; decide, by rw [hrec2, hm]; show ¬ (1 : Int) = 0; decide⟩, hrec2, hq, recD, hm]
  show ((⟨[⟨0, [], true⟩, ⟨1, [(k, v)], false⟩], r.take (recsOf r (0 + 1)).2, (((recsOf r (0 + 1)).2 : Nat) : Int)⟩ : DD), true) = _
  rw [show (0 : Int) + 1 = 1 from rfl, hrs]
  simp
theorem fold_end {k v t : Str} {j : Int} (hso : storeOk [(k, v)] = true) (hj : jourOk t j = true) : DD.foldE ⟨[⟨0, [], true⟩, ⟨1, [(k, v)], false⟩], t, j⟩ = (⟨[⟨0, [], true⟩, ⟨1, [(k, v)], true⟩], t, j⟩, true) := by
  have hok : diskOk ⟨[⟨0, [], true⟩, ⟨1, [(k, v)], false⟩], t, j⟩ = true := diskOk2.2 ⟨.inl rfl, by decide, rfl, hj⟩
  have ho : othD ⟨[⟨0, [], true⟩, ⟨1, [(k, v)], false⟩], t, j⟩ = ⟨1, [(k, v)], false⟩ := othD2.2 rfl rfl
  have hm : mostOf ⟨[⟨0, [], true⟩, ⟨1, [(k, v)], false⟩], t, j⟩ = 0 := by rw [most2 (.inl rfl)]; rfl
  have hq : bestD ⟨[⟨0, [], true⟩, ⟨1, [(k, v)], false⟩], t, j⟩ = 0 := by rw [bestD2]; simp
  rw [foldE_yes ⟨hok, by rw [ho], by rw [ho, hm]; show (0 : Int) < 1; decide, by rw [ho]; show within 0 1 99999 = true; decide, by rw [ho]; exact hso⟩, ho, hq]
  rfl
/-- What was laid while a checkpoint goes on. -/
theorem between {k v k2 v2 r r2 : Str} (hk : keyOk k = true) (hv0 : v ≠ []) (hv : v.length ≤ 60) (hr : r = recText 1 [(k, v)]) (hk2 : keyOk k2 = true) (hw0 : v2 ≠ []) (hw : v2.length ≤ 60) (hr2 : r2 = recText 2 [(k2, v2)]) :
    0 < r.length ∧ r.length ≤ 4000 ∧ r2.length ≤ 4000 ∧
    ∀ d : DD, d = ⟨[⟨0, [], true⟩, ⟨1, [(k, v)], false⟩], r ++ r2, (((r ++ r2).length : Nat) : Int)⟩ →
      d.foldE.2 = true ∧ (d.fall 0).recov = (putKey [(k, v)] k2 v2, 2) ∧ d.foldE.1.trim.recov = (putKey [(k, v)] k2 v2, 2) ∧ d.foldE.1.trim.jt = r2 := by
  obtain ⟨h1, h2, h3, h4, h5, h6⟩ := one_begun (j := 0) hk hv0 hv hr (by decide) (by omega)
  have hk22 := keyOk_len hk2
  have hne := one_ne (seq := 2) (by decide) (by decide) hk2 hw
  have hli := rec_line hne
  have hrd := rec_read (seq := 2) (l := [(k2, v2)]) (by decide +kernel) hne (fun c hc => by rw [List.mem_singleton] at hc; subst hc; exact ⟨by show k2.length ≤ _; omega, by show v2.length ≤ _; omega⟩)
  have hlen := recTextL 2 [(k2, v2)]
  rw [← hr2] at hne hli hrd hlen
  refine ⟨h4, h5, hlen, ?_⟩
  rintro d rfl
  have hln : (r ++ r2).length = r.length + r2.length := List.length_append
  have hj : jourOk (r ++ r2) (((r ++ r2).length : Nat) : Int) = true := jour_mk (by omega) (by omega) (Int.le_refl _)
  have hput : putKey [] k v = [(k, v)] := by
    rw [putKey_ins hk (by omega) hv0]
    simp [insertAt, findAt]
  have hE := fold_end (t := r ++ r2) h6 hj
  have hok : diskOk ⟨[⟨0, [], true⟩, ⟨1, [(k, v)], false⟩], r ++ r2, (((r ++ r2).length : Nat) : Int)⟩ = true := diskOk2.2 ⟨.inl rfl, by decide, rfl, hj⟩
  have hF : Full (putKey [(k, v)] k2 v2) 2 ⟨[⟨0, [], true⟩, ⟨1, [(k, v)], false⟩], r ++ r2, (((r ++ r2).length : Nat) : Int)⟩ := by
    refine ⟨hok, ?_, rfl⟩
    have hrec := recov2 hok
    have hb : bst ⟨0, [], true⟩ ⟨1, [(k, v)], false⟩ = ⟨0, [], true⟩ := bst_not_right rfl
    rw [hb] at hrec
    rw [hrec]
    show (applyAll [] (recsOf (r ++ r2) (0 + 1)).1, (0 : Int) + (((recsOf (r ++ r2) (0 + 1)).1.length : Nat) : Int)) = _
    rw [show (0 : Int) + 1 = 1 from rfl, recs_12 h2 hli h3 hrd]
    simp [applyAll, applyR, hput]
  have hok2 : diskOk ⟨[⟨0, [], true⟩, ⟨1, [(k, v)], true⟩], r ++ r2, (((r ++ r2).length : Nat) : Int)⟩ = true := diskOk2.2 ⟨.inl rfl, by decide, by rw [slotG, h6]; show (!true || within 0 1 99999 && true) = true; decide, hj⟩
  have hb2 : bst ⟨0, [], true⟩ ⟨1, [(k, v)], true⟩ = ⟨1, [(k, v)], true⟩ := bst_more_right rfl (by show (0 : Int) < 1; decide)
  have hm : mostOf ⟨[⟨0, [], true⟩, ⟨1, [(k, v)], true⟩], r ++ r2, (((r ++ r2).length : Nat) : Int)⟩ = 1 := by rw [most2 (.inl rfl), hb2]
  have ht : trimL ⟨[⟨0, [], true⟩, ⟨1, [(k, v)], true⟩], r ++ r2, (((r ++ r2).length : Nat) : Int)⟩ = r.length := by
    rw [trimL, hm]
    exact trim_12 h2 hli h3 hrd
  have hFE : Full (putKey [(k, v)] k2 v2) 2 ⟨[⟨0, [], true⟩, ⟨1, [(k, v)], true⟩], r ++ r2, (((r ++ r2).length : Nat) : Int)⟩ := by
    refine ⟨hok2, ?_, rfl⟩
    have hrec := recov2 hok2
    rw [hb2] at hrec
    rw [hrec]
    show (applyAll [(k, v)] (recsOf (r ++ r2) (1 + 1)).1, (1 : Int) + (((recsOf (r ++ r2) (1 + 1)).1.length : Nat) : Int)) = _
    have h12 : recsOf (r ++ r2) (1 + 1) = ([[(k2, v2)]], r.length + r2.length) := by
      rw [recsOf, if_pos (by decide), lines_pair h2 hli]
      simp [recsG, h3, hrd]
    rw [h12]
    rfl
  have hT := trim_full hFE
  rw [hE]
  refine ⟨rfl, (fall_full hF).rec_, hT.rec_, ?_⟩
  rw [DD.trim, if_pos hok2, ht]
  exact List.drop_left
theorem recov_len0 (d : DD) : d.recov.1.length ≤ 20900 := by
  cases h : diskOk d with
  | true => exact recov_len h
  | false => rw [recov_not h]; exact Nat.zero_le _
end Go.Proofs.YtjncpgcccgdeiaaGreatDoor

set_option linter.unusedSimpArgs false
set_option linter.unusedVariables false
set_option linter.unnecessarySimpa false
namespace Go.Proofs.YtjncpgcccgdeiaaGreatDoor
open Go Go.RowKit
attribute [local irreducible] JL JC JQ JO LO PO JA JX Ct

theorem D_dPlaces (pa : Option Addr) (pc : Nat) (p : Str) (hp : p.length ≤ 1048576)  :
    Ct Tryz.prog 25 [.slice pa p.length pc] [] (fun w => Sees w (.slice pa p.length pc) 1 p.length (p.map encB)) (fun v A' => ∃ r0a r0c r0, (r0.length = 12 ∧ ∀ x ∈ r0, 0 ≤ x ∧ x ≤ 9999) ∧ v = .slice r0a r0.length r0c ∧ A' = [rI r0a r0c r0]) := by
  refine Ct.intro Tryz.func25 rfl Tryz.ntmps25 (lb rfl) fun w0 hpre => ?_
  have hs_pa : Sees w0 _ _ _ _ := hpre
  refine jC <| jF <| jA (jG (v := .slice none 0 0) rfl) <| jE <| jB <| jC <| jF <| jA (jD (v := .slice pa p.length pc) rfl) ?_
  refine jH rfl (jI [] Tryz.call72 rfl (D_new pa pc p (by omega)) rfl (fun w hw => hw.seeOut_ hs_pa nM)) ?_
  rintro _ _ ⟨_, ⟨c_1, qs_2, -, rfl, rfl⟩, rfl⟩
  refine jA (jG (v := .pointer (some ⟨c_1, 0, none⟩)) rfl) <| jE <| jB <| jC <| jF ?_
  refine jH rfl (kH (ps := []) (cur := #[]) Tryz.underlying41 gA Tryz.zeroValue3 rfl (by kernel_rfl) (by decide) (by decide)) ?_
  rintro _ _ ⟨a_4, rfl, rfl⟩
  refine jA (jG (v := .slice a_4 0 0) rfl) <| jE <| jB <| jC <| jC <| jF <| jA (jG (v := iv 0) rfl) <| jE <| jB <| jf ?_
  refine kD (fun k_ e_ L_ => ∃ i_ : Nat, ∃ p_q : Nat, ∃ s_q : Int, ∃ o_a : Option Addr, ∃ o_c : Nat, ∃ o_ : List Int, (p_q ≤ p.length) ∧ (i_ ≤ 12) ∧ (o_.length = i_) ∧ (∀ x ∈ o_, 0 ≤ x ∧ x ≤ 9999) ∧ e_ 2 = .slice none 0 0 ∧ e_ 3 = .pointer (some ⟨c_1, 0, none⟩) ∧ e_ 4 = .slice o_a o_.length o_c ∧ e_ 5 = nv i_ ∧ L_ = [rI o_a o_c o_, cb c_1 pa pc p p_q s_q] ∧ k_ = 13 - i_) _ ⟨0, 0, qs_2, a_4, 0, ([] : List Int), (by omega), (by omega), (by rfl), (by simp), rfl, rfl, rfl, rfl, rfl, rfl⟩ ?_
  rintro _ e_5 _ ⟨i_, p_q, s_q, o_a, o_c, o_, hpq_, hi, hol, ho, he_6, he_7, he_8, he_9, rfl, rfl⟩
  refine jC <| jC <| jF <| jA (jD (v := nv i_) he_9) <| jA (jl rfl rfl) <| jE <| jB ?_
  by_cases h_10 : ((i_ : Nat) : Int) < 12
  · refine jW (cB (dT h_10)) <| jT <| jB <| jC <| jf <| jF <| jA (jD (v := .slice o_a o_.length o_c) he_8) <| jA (jD (v := .pointer (some ⟨c_1, 0, none⟩)) he_7) ?_
    refine jH rfl (jI [1] Tryz.call73 rfl (D_below c_1 pa pc p p_q s_q (by omega) (by omega) 10000 (by omega)) rfl (fun w hw => ⟨hw.seeOut_ hs_pa nM, hw.apart hs_pa nM (by simp)⟩)) ?_
    rintro _ _ ⟨_, ⟨qp_11, qs_12, n_14, fq_13, f_15, rfl, rfl⟩, rfl⟩
    refine jH rfl (kH (ps := [(0, nv n_14)]) (cur := #[nv n_14]) Tryz.underlying41 gA Tryz.zeroValue3 rfl (by kernel_rfl) (by decide) (by decide)) ?_
    rintro _ _ ⟨a_17, rfl, rfl⟩
    refine jH rfl (kU 2 (q := 1) (news := ([((n_14 : Nat) : Int)] : List Int).map (Value.int .i64)) (n' := (o_ ++ ([((n_14 : Nat) : Int)] : List Int)).length) (cs' := (o_ ++ ([((n_14 : Nat) : Int)] : List Int)).map (Value.int .i64)) rfl Tryz.underlying41 Tryz.underlying41 Tryz.typeInfo3 rfl (by' := 8) rfl rfl rfl rfl rfl (fun w hw => Src.sees (hw.see (i := 0) rfl) (oneI _)) (by (try simp only [LE]); omega) (by (try simp only [LE]); omega) (by simp only [List.length_append, List.length_take, List.length_drop, List.length_cons, List.length_nil] <;> first | rfl | omega) (by simp only [List.map_append])) ?_
    rintro _ _ ⟨a_18, c_19, rfl, rfl⟩
    refine jA (jG (v := .slice a_18 ((o_ ++ ([((n_14 : Nat) : Int)] : List Int)).length) c_19) rfl) <| jE <| jm <| jB <| jF <| jA (jD (v := nv i_) he_9) <| jA (jc (c := ((i_ + 1 : Nat) : Int)) rfl rfl (wr (by omega))) <| jA (jG (v := iv ((i_ + 1 : Nat) : Int)) rfl) <| jE <| kB [2, 1] (A := [rI a_18 c_19 (o_ ++ ([((n_14 : Nat) : Int)] : List Int)), cb c_1 pa pc p qp_11 qs_12]) rfl ?_
    refine jq (13 - (i_ + 1)) (by omega) ⟨(i_ + 1), qp_11, qs_12, a_18, c_19, (o_ ++ ([((n_14 : Nat) : Int)] : List Int)), (by omega), (by omega), (by first | omega | (simp only [List.length_append, List.length_cons, List.length_nil, List.length_set]; omega)), (fun x hx => by rcases List.mem_append.1 hx with hx | hx; exact ho x hx; simp only [List.mem_cons, List.not_mem_nil, or_false] at hx; subst hx; omega), he_6, he_7, rfl, rfl, rfl, rfl⟩
  refine jR (cB (dF h_10)) <| jx <| jb <| jb <| jy <| jB <| jC <| jF <| jA (jD (v := .slice o_a o_.length o_c) he_8) <| jA (jG (v := .slice o_a o_.length o_c) rfl) ?_
  refine jE <| jB <| jN <| jV (.inl rfl) rfl (jJ (v := .slice o_a o_.length o_c) rfl) (tS 1 _) ?_
  exact ⟨o_a, o_c, o_, ⟨by omega, by assumption⟩, rfl, rfl⟩

end Go.Proofs.YtjncpgcccgdeiaaGreatDoor
