/-
  Drawing from a row of bytes (part 21).
-/
import Derived.Test.YtenfajgpdhgknaaGreatDoorS13KEYS
import Derived.Test.YtenfajgpdhgknaaGreatDoorSlTx
import Derived.Test.YtenfajgpdhgknaaGreatDoorSx
set_option linter.unusedSimpArgs false
set_option linter.unusedVariables false
set_option linter.unnecessarySimpa false
namespace Go.Proofs.YtenfajgpdhgknaaGreatDoor
open Go Go.RowKit
@[reducible] def cb (b : Nat) (a : Option Addr) (c : Nat) (l : Str) (p : Nat) (s : Int) : Res := bk b 162 [.slice a l.length c, .int .i64 ((p : Nat) : Int), .int .i64 s]
/-- The bytes that a cursor goes over can be read, and none of these resources holds them. -/
def seesC (w : World) (a : Option Addr) (c : Nat) (l : Str) (A : List Res) : Prop := Sees w (.slice a l.length c) 1 l.length (l.map encB) ∧ ∀ i, (Value.slice a l.length c).ownBlock = some i → i ∉ idsOf A
theorem atB {l : Str} {i : Nat} (h : i < l.length) : (l.map encB)[i * 1]? = some (.int .u8 (((l.getD i 0).toNat : Nat) : Int)) := by simp [h, encB]
theorem and_bnd (x m : Int) (h0 : 0 ≤ m) (h1 : m < 9223372036854775808) : 0 ≤ bits .and .i64 x m ∧ bits .and .i64 x m ≤ m := by
  have hm : (BitVec.ofInt 64 m).toNat = m.toNat := by
    rw [BitVec.toNat_ofInt]
    congr 1
    omega
  have hle : ((BitVec.ofInt 64 x) &&& (BitVec.ofInt 64 m)).toNat ≤ m.toNat := by
    rw [BitVec.toNat_and, hm]
    exact Nat.and_le_right
  have hw : bits .and .i64 x m = ((((BitVec.ofInt 64 x) &&& (BitVec.ofInt 64 m)).toNat : Nat) : Int) := by
    unfold bits
    show IntKind.i64.wrap ((((BitVec.ofInt 64 x) &&& (BitVec.ofInt 64 m)).toNat : Nat) : Int) = _
    exact wr (by omega)
  rw [hw]
  omega
theorem St.apart {w0 w : World} {D : List Nat} {L A : List Res} {v : Value} {k m : Nat} {vs : List Value} (hw : St w0 D L w) (hs : Sees w0 v k m vs) (hD : ∀ b, v.ownBlock = some b → b ∉ D) (hA : ∀ r ∈ A, r ∈ L) :
    ∀ j, v.ownBlock = some j → j ∉ idsOf A := fun j hj hin => by
  obtain ⟨r, hr, hjr⟩ := mem_idsOf.1 hin
  rcases hs.2 with ⟨rfl, _⟩ | ⟨b, o, cap, hv, h1, h2, h3, h4⟩
  · simp [Value.ownBlock] at hj
  · rcases hw.fresh j (mem_idsOf.2 ⟨r, hA r hr, hjr⟩) with h | h
    · exact hD j hj h
    · subst hv
      simp [Value.ownBlock] at hj
      omega
/-- What PutKey keeps. -/
def okC' (n k : Nat) (s : List Cell) : Prop := s.length ≤ n ∧ ∀ c ∈ s, c.1.length ≤ k ∧ c.2.length ≤ k
theorem okC'.put {n k : Nat} {s : List Cell} (h : okC' n k s) (key val : Str) (h1 : key.length ≤ k) (h2 : val.length ≤ k) : okC' (n + 1) k (putKey s key val) := by
  refine ⟨Nat.le_trans (putKey_len s key val) (by have := h.1; omega), fun c hc => ?_⟩
  rcases putKey_mem (s := s) hc with hc | ⟨rfl, _, _⟩
  · exact h.2 c hc
  · exact ⟨h1, h2⟩
theorem okC'.mono {n n' k : Nat} {s : List Cell} (h : okC' n k s) (hn : n ≤ n') : okC' n' k s := ⟨Nat.le_trans h.1 hn, h.2⟩
attribute [local irreducible] JL JC JQ JO LO PO JA JX Ct

theorem D_byte (qb : Nat) (qa : Option Addr) (qc : Nat) (ql : Str) (qp : Nat) (qs : Int) (hql : ql.length ≤ 1048576) (hqp : qp ≤ ql.length)  :
    Ct Tryz.prog 262 [.pointer (some ⟨qb, 0, none⟩)] [cb qb qa qc ql qp qs] (fun w => seesC w qa qc ql [cb qb qa qc ql qp qs]) (fun v A' => ∃ qp' qs' r0, qp' ≤ ql.length ∧ (r0 ≤ 255) ∧ v = .int .i64 ((r0 : Nat) : Int) ∧ A' = [cb qb qa qc ql qp' qs']) := by
  refine Ct.intro Tryz.func262 rfl Tryz.ntmps262 (Nat.le_of_ble_eq_true rfl) fun w0 hpre => ?_
  have hs_qa : Sees w0 _ _ _ _ := hpre.1
  refine JC.seq ?_
  refine JC.region ?_
  refine JL.pure rfl (PO.assign (v := .int .i64 0) rfl) ?_
  refine JL.nil ?_
  refine JQ.seq ?_
  refine JC.seq ?_
  refine JC.region ?_
  refine JL.pure rfl (PO.move (v := .pointer (some ⟨qb, 0, none⟩)) rfl) ?_
  refine JL.pure rfl (PO.move (v := .pointer (some ⟨qb, 0, none⟩)) rfl) ?_
  refine JL.pure rfl (PO.nilCheck rfl) ?_
  refine JL.pure rfl (PO.fieldAddr fo162_2 rfl) ?_
  refine JL.ld rfl (LO.load1 0 (v := .int .i64 qs) rfl rfl Tryz.isAgg3 rfl) ?_
  refine JL.pure rfl (PO.mulW rfl rfl) ?_
  refine JL.pure rfl (PO.addW rfl rfl) ?_
  refine JL.pure rfl (PO.nilCheck rfl) ?_
  refine JL.pure rfl (PO.fieldAddr fo162_2 rfl) ?_
  refine JL.op rfl (JO.store 0 (vs := [.int .i64 (IntKind.i64.wrap ((IntKind.i64.wrap (qs * 6364136223846793005)) + 1442695040888963407))]) (cs' := [.slice qa ql.length qc, .int .i64 ((qp : Nat) : Int), .int .i64 (IntKind.i64.wrap ((IntKind.i64.wrap (qs * 6364136223846793005)) + 1442695040888963407))]) rfl rfl rfl rfl Tryz.sizeOf3 rfl rfl (Nat.le_of_ble_eq_true rfl) rfl) ?_
  rintro _ _ rfl
  refine JL.nil ?_
  refine JQ.seq ?_
  refine JC.seq ?_
  refine JC.regionA [cb qb qa qc ql qp (IntKind.i64.wrap ((IntKind.i64.wrap (qs * 6364136223846793005)) + 1442695040888963407))] 12 mixed (by simp) ?_
  refine JA.takeP 0 rfl (by kernel_rfl) (NP.th NP.body) (by kernel_rfl) (by kernel_rfl) rfl (PO.move (v := .pointer (some ⟨qb, 0, none⟩)) rfl) ?_
  refine JA.takeP 1 rfl (by kernel_rfl) (NP.th NP.body) (by kernel_rfl) (by kernel_rfl) rfl (PO.nilCheck rfl) ?_
  refine JA.takeP 2 rfl (by kernel_rfl) (NP.th NP.body) (by kernel_rfl) (by kernel_rfl) rfl (PO.fieldAddr fo162_2 rfl) ?_
  refine JA.take 3 rfl (by kernel_rfl) (NP.th NP.body) (by kernel_rfl) (by kernel_rfl) (by kernel_rfl) rfl (LO.load1 0 (v := .int .i64 (IntKind.i64.wrap ((IntKind.i64.wrap (qs * 6364136223846793005)) + 1442695040888963407))) rfl rfl Tryz.isAgg3 rfl) ?_
  refine JA.takeP 4 rfl (by kernel_rfl) (NP.th NP.body) (by kernel_rfl) (by kernel_rfl) rfl (PO.shr rfl rfl (by decide) (by decide)) ?_
  refine JA.takeP 5 rfl (by kernel_rfl) (NP.th NP.body) (by kernel_rfl) (by kernel_rfl) rfl (PO.move (v := .pointer (some ⟨qb, 0, none⟩)) rfl) ?_
  refine JA.takeP 6 rfl (by kernel_rfl) (NP.th NP.body) (by kernel_rfl) (by kernel_rfl) rfl (PO.nilCheck rfl) ?_
  refine JA.takeP 7 rfl (by kernel_rfl) (NP.th NP.body) (by kernel_rfl) (by kernel_rfl) rfl (PO.fieldAddr fo162_2 rfl) ?_
  refine JA.take 8 rfl (by kernel_rfl) (NP.th NP.body) (by kernel_rfl) (by kernel_rfl) (by kernel_rfl) rfl (LO.load1 0 (v := .int .i64 (IntKind.i64.wrap ((IntKind.i64.wrap (qs * 6364136223846793005)) + 1442695040888963407))) rfl rfl Tryz.isAgg3 rfl) ?_
  refine JA.takeP 9 rfl (by kernel_rfl) (NP.th NP.body) (by kernel_rfl) (by kernel_rfl) rfl (PO.shr rfl rfl (by decide) (by decide)) ?_
  refine JA.takeP 10 rfl (by kernel_rfl) (NP.th NP.body) (by kernel_rfl) (by kernel_rfl) rfl (PO.bits (by simp) rfl rfl) ?_
  refine JA.takeP 11 rfl (by kernel_rfl) (NP.th NP.body) (by kernel_rfl) (by kernel_rfl) rfl (PO.bits (by simp) rfl rfl) ?_
  refine JA.takeP 12 rfl (by kernel_rfl) (NP.th NP.body) (by kernel_rfl) (by kernel_rfl) rfl (PO.assign (v := .int .i64 (Go.bits .and .i64 (Go.bits .xor .i64 ((IntKind.i64.wrap ((IntKind.i64.wrap (qs * 6364136223846793005)) + 1442695040888963407)) / 2 ^ (33 : Int).toNat) ((IntKind.i64.wrap ((IntKind.i64.wrap (qs * 6364136223846793005)) + 1442695040888963407)) / 2 ^ (45 : Int).toNat)) 255)) rfl) ?_
  refine JA.done (by kernel_rfl) ?_
  refine JQ.seq ?_
  refine JC.seq ?_
  refine JC.seq ?_
  refine JC.regionA [cb qb qa qc ql qp (IntKind.i64.wrap ((IntKind.i64.wrap (qs * 6364136223846793005)) + 1442695040888963407))] 1000 mixed (by simp) ?_
  refine JA.takeP 0 rfl (by kernel_rfl) (NP.th (NP.th NP.body)) (by kernel_rfl) (by kernel_rfl) rfl (PO.move (v := .pointer (some ⟨qb, 0, none⟩)) rfl) ?_
  refine JA.takeP 1 rfl (by kernel_rfl) (NP.th (NP.th NP.body)) (by kernel_rfl) (by kernel_rfl) rfl (PO.nilCheck rfl) ?_
  refine JA.takeP 2 rfl (by kernel_rfl) (NP.th (NP.th NP.body)) (by kernel_rfl) (by kernel_rfl) rfl (PO.fieldAddr fo162_1 rfl) ?_
  refine JA.take 3 rfl (by kernel_rfl) (NP.th (NP.th NP.body)) (by kernel_rfl) (by kernel_rfl) (by kernel_rfl) rfl (LO.load1 0 (v := .int .i64 ((qp : Nat) : Int)) rfl rfl Tryz.isAgg3 rfl) ?_
  refine JA.takeP 4 rfl (by kernel_rfl) (NP.th (NP.th NP.body)) (by kernel_rfl) (by kernel_rfl) rfl (PO.move (v := .pointer (some ⟨qb, 0, none⟩)) rfl) ?_
  refine JA.takeP 5 rfl (by kernel_rfl) (NP.th (NP.th NP.body)) (by kernel_rfl) (by kernel_rfl) rfl (PO.nilCheck rfl) ?_
  refine JA.takeP 6 rfl (by kernel_rfl) (NP.th (NP.th NP.body)) (by kernel_rfl) (by kernel_rfl) rfl (PO.fieldAddr fo162_0 rfl) ?_
  refine JA.take 7 rfl (by kernel_rfl) (NP.th (NP.th NP.body)) (by kernel_rfl) (by kernel_rfl) (by kernel_rfl) rfl (LO.load1 0 (v := .slice qa ql.length qc) rfl rfl Tryz.isAgg44 rfl) ?_
  refine JA.takeP 8 rfl (by kernel_rfl) (NP.th (NP.th NP.body)) (by kernel_rfl) (by kernel_rfl) rfl (PO.lenV Tryz.underlying44 rfl) ?_
  refine JA.takeP 9 rfl (by kernel_rfl) (NP.th (NP.th NP.body)) (by kernel_rfl) (by kernel_rfl) rfl (PO.lss rfl rfl) ?_
  refine JA.done (by kernel_rfl) ?_
  refine JQ.seq ?_
  by_cases h_1 : ((qp : Nat) : Int) < ((ql.length : Nat) : Int)
  · skip
    have hu8 := UInt8.toNat_lt (ql.getD qp 0)
    refine JC.condT (congrArg Value.bool (decide_eq_true h_1)) ?_
    refine JC.seq ?_
    refine JC.regionA [cb qb qa qc ql qp (IntKind.i64.wrap ((IntKind.i64.wrap (qs * 6364136223846793005)) + 1442695040888963407))] 14 mixed (by simp) ?_
    refine JA.takeP 0 rfl (by kernel_rfl) (NP.th (NP.th NP.body)) (by kernel_rfl) (by kernel_rfl) rfl (PO.move (v := .int .i64 (Go.bits .and .i64 (Go.bits .xor .i64 ((IntKind.i64.wrap ((IntKind.i64.wrap (qs * 6364136223846793005)) + 1442695040888963407)) / 2 ^ (33 : Int).toNat) ((IntKind.i64.wrap ((IntKind.i64.wrap (qs * 6364136223846793005)) + 1442695040888963407)) / 2 ^ (45 : Int).toNat)) 255)) rfl) ?_
    refine JA.takeP 1 rfl (by kernel_rfl) (NP.th (NP.th NP.body)) (by kernel_rfl) (by kernel_rfl) rfl (PO.move (v := .pointer (some ⟨qb, 0, none⟩)) rfl) ?_
    refine JA.takeP 2 rfl (by kernel_rfl) (NP.th (NP.th NP.body)) (by kernel_rfl) (by kernel_rfl) rfl (PO.nilCheck rfl) ?_
    refine JA.takeP 3 rfl (by kernel_rfl) (NP.th (NP.th NP.body)) (by kernel_rfl) (by kernel_rfl) rfl (PO.fieldAddr fo162_0 rfl) ?_
    refine JA.take 4 rfl (by kernel_rfl) (NP.th (NP.th NP.body)) (by kernel_rfl) (by kernel_rfl) (by kernel_rfl) rfl (LO.load1 0 (v := .slice qa ql.length qc) rfl rfl Tryz.isAgg44 rfl) ?_
    refine JA.takeP 5 rfl (by kernel_rfl) (NP.th (NP.th NP.body)) (by kernel_rfl) (by kernel_rfl) rfl (PO.move (v := .pointer (some ⟨qb, 0, none⟩)) rfl) ?_
    refine JA.takeP 6 rfl (by kernel_rfl) (NP.th (NP.th NP.body)) (by kernel_rfl) (by kernel_rfl) rfl (PO.nilCheck rfl) ?_
    refine JA.takeP 7 rfl (by kernel_rfl) (NP.th (NP.th NP.body)) (by kernel_rfl) (by kernel_rfl) rfl (PO.fieldAddr fo162_1 rfl) ?_
    refine JA.take 8 rfl (by kernel_rfl) (NP.th (NP.th NP.body)) (by kernel_rfl) (by kernel_rfl) (by kernel_rfl) rfl (LO.load1 0 (v := .int .i64 ((qp : Nat) : Int)) rfl rfl Tryz.isAgg3 rfl) ?_
    obtain ⟨hr_2, hr_2b, -⟩ := sees_some hs_qa (by omega)
    refine JA.takeP 9 rfl (by kernel_rfl) (NP.th (NP.th NP.body)) (by kernel_rfl) (by kernel_rfl) rfl (PO.indexAddrV (i := qp) Tryz.underlying44 Tryz.sizeOf5 hr_2 hr_2b rfl rfl (by omega)) ?_
    refine JA.take 10 rfl (by kernel_rfl) (NP.th (NP.th NP.body)) (by kernel_rfl) (by kernel_rfl) (by kernel_rfl) rfl (LO.loadS1 (v := .int .u8 (((ql.getD qp 0).toNat : Nat) : Int)) hs_qa (hpre.2) rfl Tryz.isAgg5 (atB (by omega))) ?_
    refine JA.takeP 11 rfl (by kernel_rfl) (NP.th (NP.th NP.body)) (by kernel_rfl) (by kernel_rfl) rfl (PO.convI (c := (((ql.getD qp 0).toNat : Nat) : Int)) Tryz.underlying5 Tryz.underlying3 rfl (wr (by omega))) ?_
    refine JA.takeP 12 rfl (by kernel_rfl) (NP.th (NP.th NP.body)) (by kernel_rfl) (by kernel_rfl) rfl (PO.addW rfl rfl) ?_
    refine JA.takeP 13 rfl (by kernel_rfl) (NP.th (NP.th NP.body)) (by kernel_rfl) (by kernel_rfl) rfl (PO.bits (by simp) rfl rfl) ?_
    refine JA.takeP 14 rfl (by kernel_rfl) (NP.th (NP.th NP.body)) (by kernel_rfl) (by kernel_rfl) rfl (PO.assign (v := .int .i64 (Go.bits .and .i64 (IntKind.i64.wrap ((Go.bits .and .i64 (Go.bits .xor .i64 ((IntKind.i64.wrap ((IntKind.i64.wrap (qs * 6364136223846793005)) + 1442695040888963407)) / 2 ^ (33 : Int).toNat) ((IntKind.i64.wrap ((IntKind.i64.wrap (qs * 6364136223846793005)) + 1442695040888963407)) / 2 ^ (45 : Int).toNat)) 255) + (((ql.getD qp 0).toNat : Nat) : Int))) 255)) rfl) ?_
    refine JA.done (by kernel_rfl) ?_
    refine JQ.seq ?_
    refine JC.region ?_
    refine JL.pure rfl (PO.move (v := .pointer (some ⟨qb, 0, none⟩)) rfl) ?_
    refine JL.pure rfl (PO.move (v := .pointer (some ⟨qb, 0, none⟩)) rfl) ?_
    refine JL.pure rfl (PO.nilCheck rfl) ?_
    refine JL.pure rfl (PO.fieldAddr fo162_1 rfl) ?_
    refine JL.ld rfl (LO.load1 0 (v := .int .i64 ((qp : Nat) : Int)) rfl rfl Tryz.isAgg3 rfl) ?_
    refine JL.pure rfl (PO.add (c := ((qp + 1 : Nat) : Int)) rfl rfl (wr (by omega))) ?_
    refine JL.pure rfl (PO.nilCheck rfl) ?_
    refine JL.pure rfl (PO.fieldAddr fo162_1 rfl) ?_
    refine JL.op rfl (JO.store 0 (vs := [.int .i64 ((qp + 1 : Nat) : Int)]) (cs' := [.slice qa ql.length qc, .int .i64 ((qp + 1 : Nat) : Int), .int .i64 (IntKind.i64.wrap ((IntKind.i64.wrap (qs * 6364136223846793005)) + 1442695040888963407))]) rfl rfl rfl rfl Tryz.sizeOf3 rfl rfl (Nat.le_of_ble_eq_true rfl) rfl) ?_
    rintro _ _ rfl
    refine JL.nil ?_
    refine JQ.seq ?_
    refine JC.seq ?_
    refine JC.region ?_
    refine JL.pure rfl (PO.move (v := .int .i64 (Go.bits .and .i64 (IntKind.i64.wrap ((Go.bits .and .i64 (Go.bits .xor .i64 ((IntKind.i64.wrap ((IntKind.i64.wrap (qs * 6364136223846793005)) + 1442695040888963407)) / 2 ^ (33 : Int).toNat) ((IntKind.i64.wrap ((IntKind.i64.wrap (qs * 6364136223846793005)) + 1442695040888963407)) / 2 ^ (45 : Int).toNat)) 255) + (((ql.getD qp 0).toNat : Nat) : Int))) 255)) rfl) ?_
    refine JL.pure rfl (PO.assign (v := .int .i64 (Go.bits .and .i64 (IntKind.i64.wrap ((Go.bits .and .i64 (Go.bits .xor .i64 ((IntKind.i64.wrap ((IntKind.i64.wrap (qs * 6364136223846793005)) + 1442695040888963407)) / 2 ^ (33 : Int).toNat) ((IntKind.i64.wrap ((IntKind.i64.wrap (qs * 6364136223846793005)) + 1442695040888963407)) / 2 ^ (45 : Int).toNat)) 255) + (((ql.getD qp 0).toNat : Nat) : Int))) 255)) rfl) ?_
    refine JL.nil ?_
    refine JQ.seq ?_
    refine JC.ret ?_
    refine Done.one (.inl rfl) rfl (RV.tmp (v := .int .i64 (Go.bits .and .i64 (IntKind.i64.wrap ((Go.bits .and .i64 (Go.bits .xor .i64 ((IntKind.i64.wrap ((IntKind.i64.wrap (qs * 6364136223846793005)) + 1442695040888963407)) / 2 ^ (33 : Int).toNat) ((IntKind.i64.wrap ((IntKind.i64.wrap (qs * 6364136223846793005)) + 1442695040888963407)) / 2 ^ (45 : Int).toNat)) 255) + (((ql.getD qp 0).toNat : Nat) : Int))) 255)) rfl) (List.Sublist.refl _) ?_
    have hbb := and_bnd (IntKind.i64.wrap ((Go.bits .and .i64 (Go.bits .xor .i64 ((IntKind.i64.wrap ((IntKind.i64.wrap (qs * 6364136223846793005)) + 1442695040888963407)) / 2 ^ (33 : Int).toNat) ((IntKind.i64.wrap ((IntKind.i64.wrap (qs * 6364136223846793005)) + 1442695040888963407)) / 2 ^ (45 : Int).toNat)) 255) + (((ql.getD qp 0).toNat : Nat) : Int))) 255 (by decide) (by decide)
    obtain ⟨r0, hr0⟩ : ∃ r0 : Nat, Go.bits .and .i64 (IntKind.i64.wrap ((Go.bits .and .i64 (Go.bits .xor .i64 ((IntKind.i64.wrap ((IntKind.i64.wrap (qs * 6364136223846793005)) + 1442695040888963407)) / 2 ^ (33 : Int).toNat) ((IntKind.i64.wrap ((IntKind.i64.wrap (qs * 6364136223846793005)) + 1442695040888963407)) / 2 ^ (45 : Int).toNat)) 255) + (((ql.getD qp 0).toNat : Nat) : Int))) 255 = ((r0 : Nat) : Int) := ⟨(Go.bits .and .i64 (IntKind.i64.wrap ((Go.bits .and .i64 (Go.bits .xor .i64 ((IntKind.i64.wrap ((IntKind.i64.wrap (qs * 6364136223846793005)) + 1442695040888963407)) / 2 ^ (33 : Int).toNat) ((IntKind.i64.wrap ((IntKind.i64.wrap (qs * 6364136223846793005)) + 1442695040888963407)) / 2 ^ (45 : Int).toNat)) 255) + (((ql.getD qp 0).toNat : Nat) : Int))) 255).toNat, by omega⟩
    rw [hr0] at hbb
    exact ⟨(qp + 1), (IntKind.i64.wrap ((IntKind.i64.wrap (qs * 6364136223846793005)) + 1442695040888963407)), r0, by omega, by omega, congrArg (Value.int .i64) hr0, rfl⟩
  · skip
    refine JC.condF (congrArg Value.bool (decide_eq_false h_1)) ?_
    refine JC.skip ?_
    refine JQ.seq ?_
    refine JC.seq ?_
    refine JC.region ?_
    refine JL.pure rfl (PO.move (v := .int .i64 (Go.bits .and .i64 (Go.bits .xor .i64 ((IntKind.i64.wrap ((IntKind.i64.wrap (qs * 6364136223846793005)) + 1442695040888963407)) / 2 ^ (33 : Int).toNat) ((IntKind.i64.wrap ((IntKind.i64.wrap (qs * 6364136223846793005)) + 1442695040888963407)) / 2 ^ (45 : Int).toNat)) 255)) rfl) ?_
    refine JL.pure rfl (PO.assign (v := .int .i64 (Go.bits .and .i64 (Go.bits .xor .i64 ((IntKind.i64.wrap ((IntKind.i64.wrap (qs * 6364136223846793005)) + 1442695040888963407)) / 2 ^ (33 : Int).toNat) ((IntKind.i64.wrap ((IntKind.i64.wrap (qs * 6364136223846793005)) + 1442695040888963407)) / 2 ^ (45 : Int).toNat)) 255)) rfl) ?_
    refine JL.nil ?_
    refine JQ.seq ?_
    refine JC.ret ?_
    refine Done.one (.inl rfl) rfl (RV.tmp (v := .int .i64 (Go.bits .and .i64 (Go.bits .xor .i64 ((IntKind.i64.wrap ((IntKind.i64.wrap (qs * 6364136223846793005)) + 1442695040888963407)) / 2 ^ (33 : Int).toNat) ((IntKind.i64.wrap ((IntKind.i64.wrap (qs * 6364136223846793005)) + 1442695040888963407)) / 2 ^ (45 : Int).toNat)) 255)) rfl) (List.Sublist.refl _) ?_
    have hbb := and_bnd (Go.bits .xor .i64 ((IntKind.i64.wrap ((IntKind.i64.wrap (qs * 6364136223846793005)) + 1442695040888963407)) / 2 ^ (33 : Int).toNat) ((IntKind.i64.wrap ((IntKind.i64.wrap (qs * 6364136223846793005)) + 1442695040888963407)) / 2 ^ (45 : Int).toNat)) 255 (by decide) (by decide)
    obtain ⟨r0, hr0⟩ : ∃ r0 : Nat, Go.bits .and .i64 (Go.bits .xor .i64 ((IntKind.i64.wrap ((IntKind.i64.wrap (qs * 6364136223846793005)) + 1442695040888963407)) / 2 ^ (33 : Int).toNat) ((IntKind.i64.wrap ((IntKind.i64.wrap (qs * 6364136223846793005)) + 1442695040888963407)) / 2 ^ (45 : Int).toNat)) 255 = ((r0 : Nat) : Int) := ⟨(Go.bits .and .i64 (Go.bits .xor .i64 ((IntKind.i64.wrap ((IntKind.i64.wrap (qs * 6364136223846793005)) + 1442695040888963407)) / 2 ^ (33 : Int).toNat) ((IntKind.i64.wrap ((IntKind.i64.wrap (qs * 6364136223846793005)) + 1442695040888963407)) / 2 ^ (45 : Int).toNat)) 255).toNat, by omega⟩
    rw [hr0] at hbb
    exact ⟨qp, (IntKind.i64.wrap ((IntKind.i64.wrap (qs * 6364136223846793005)) + 1442695040888963407)), r0, by omega, by omega, congrArg (Value.int .i64) hr0, rfl⟩

theorem D_below (qb : Nat) (qa : Option Addr) (qc : Nat) (ql : Str) (qp : Nat) (qs : Int) (hql : ql.length ≤ 1048576) (hqp : qp ≤ ql.length) (k : Int) (hk : -9223372036854775808 ≤ k ∧ k ≤ 9223372036854775807) :
    Ct Tryz.prog 173 [.pointer (some ⟨qb, 0, none⟩), .int .i64 k] [cb qb qa qc ql qp qs] (fun w => seesC w qa qc ql [cb qb qa qc ql qp qs]) (fun v A' => ∃ qp' qs' r0, qp' ≤ ql.length ∧ (((r0 : Nat) : Int) < k ∨ r0 = 0) ∧ v = .int .i64 ((r0 : Nat) : Int) ∧ A' = [cb qb qa qc ql qp' qs']) := by
  refine Ct.intro Tryz.func173 rfl Tryz.ntmps173 (Nat.le_of_ble_eq_true rfl) fun w0 hpre => ?_
  have hs_qa : Sees w0 _ _ _ _ := hpre.1
  refine JC.seq ?_
  refine JC.region ?_
  refine JL.pure rfl (PO.assign (v := .int .i64 0) rfl) ?_
  refine JL.nil ?_
  refine JQ.seq ?_
  refine JC.seq ?_
  refine JC.seq ?_
  refine JC.region ?_
  refine JL.pure rfl (PO.move (v := .int .i64 k) rfl) ?_
  refine JL.pure rfl (PO.leq rfl rfl) ?_
  refine JL.nil ?_
  refine JQ.seq ?_
  by_cases h_1 : k ≤ 0
  · skip
    refine JC.condT (congrArg Value.bool (decide_eq_true h_1)) ?_
    refine JC.seq ?_
    refine JC.region ?_
    refine JL.pure rfl (PO.assign (v := .int .i64 0) rfl) ?_
    refine JL.nil ?_
    refine JQ.seq ?_
    refine JC.ret ?_
    refine JQ.thenRet ?_
    refine Done.one (.inl rfl) rfl (RV.tmp (v := .int .i64 0) rfl) (List.Sublist.refl _) ?_
    exact ⟨qp, qs, 0, (by omega), (.inr rfl), rfl, rfl⟩
  · skip
    obtain ⟨kk, hkk⟩ : ∃ kk : Nat, k = ((kk : Nat) : Int) := ⟨k.toNat, by omega⟩
    refine JC.condF (congrArg Value.bool (decide_eq_false h_1)) ?_
    refine JC.skip ?_
    refine JQ.seq ?_
    refine JC.seq ?_
    refine JC.seq ?_
    refine JC.region ?_
    refine JL.pure rfl (PO.move (v := .int .i64 ((kk : Nat) : Int)) (congrArg (Value.int .i64) hkk)) ?_
    refine JL.pure rfl (PO.leq rfl rfl) ?_
    refine JL.nil ?_
    refine JQ.seq ?_
    by_cases h_2 : ((kk : Nat) : Int) ≤ 256
    · skip
      refine JC.condT (congrArg Value.bool (decide_eq_true h_2)) ?_
      refine JC.seq ?_
      refine JC.region ?_
      refine JL.pure rfl (PO.move (v := .pointer (some ⟨qb, 0, none⟩)) rfl) ?_
      refine JL.op rfl (JO.call [0] Tryz.call262 rfl (D_byte qb qa qc ql qp qs (by omega) (by omega)) rfl (fun w hw => ⟨hw.seeOut_ hs_qa (hpre.2), hw.apart hs_qa (hpre.2) (by simp)⟩)) ?_
      rintro _ _ ⟨_, ⟨qp_3, qs_4, n_6, fq_5, f_7, rfl, rfl⟩, rfl⟩
      refine JL.pure rfl (PO.move (v := .int .i64 ((kk : Nat) : Int)) (congrArg (Value.int .i64) hkk)) ?_
      refine JL.pure rfl (PO.remN (c := ((n_6 % kk : Nat) : Int)) rfl rfl (by omega) (by omega) (by omega)) ?_
      refine JL.pure rfl (PO.assign (v := .int .i64 ((n_6 % kk : Nat) : Int)) rfl) ?_
      refine JL.nil ?_
      refine JQ.seq ?_
      refine JC.ret ?_
      refine JQ.thenRet ?_
      refine Done.one (.inl rfl) rfl (RV.tmp (v := .int .i64 ((n_6 % kk : Nat) : Int)) rfl) (List.Sublist.refl _) ?_
      exact ⟨qp_3, qs_4, (n_6 % kk), (by omega), (.inl (by have hm_ := Nat.mod_lt (n_6) (show 0 < kk by omega); omega)), rfl, rfl⟩
    · skip
      refine JC.condF (congrArg Value.bool (decide_eq_false h_2)) ?_
      refine JC.skip ?_
      refine JQ.seq ?_
      refine JC.seq ?_
      refine JC.region ?_
      refine JL.pure rfl (PO.move (v := .pointer (some ⟨qb, 0, none⟩)) rfl) ?_
      refine JL.op rfl (JO.call [0] Tryz.call262 rfl (D_byte qb qa qc ql qp qs (by omega) (by omega)) rfl (fun w hw => ⟨hw.seeOut_ hs_qa (hpre.2), hw.apart hs_qa (hpre.2) (by simp)⟩)) ?_
      rintro _ _ ⟨_, ⟨qp_9, qs_10, n_12, fq_11, f_13, rfl, rfl⟩, rfl⟩
      refine JL.pure rfl (PO.assign (v := .int .i64 ((n_12 : Nat) : Int)) rfl) ?_
      refine JL.nil ?_
      refine JQ.seq ?_
      refine JC.seq ?_
      refine JC.region ?_
      refine JL.pure rfl (PO.move (v := .pointer (some ⟨qb, 0, none⟩)) rfl) ?_
      refine JL.op rfl (JO.call [0] Tryz.call262 rfl (D_byte qb qa qc ql qp_9 qs_10 (by omega) (by omega)) rfl (fun w hw => ⟨hw.seeOut_ hs_qa (hpre.2), hw.apart hs_qa (hpre.2) (by simp)⟩)) ?_
      rintro _ _ ⟨_, ⟨qp_15, qs_16, n_18, fq_17, f_19, rfl, rfl⟩, rfl⟩
      refine JL.pure rfl (PO.assign (v := .int .i64 ((n_18 : Nat) : Int)) rfl) ?_
      refine JL.nil ?_
      refine JQ.seq ?_
      refine JC.seq ?_
      refine JC.region ?_
      refine JL.pure rfl (PO.move (v := .pointer (some ⟨qb, 0, none⟩)) rfl) ?_
      refine JL.op rfl (JO.call [0] Tryz.call262 rfl (D_byte qb qa qc ql qp_15 qs_16 (by omega) (by omega)) rfl (fun w hw => ⟨hw.seeOut_ hs_qa (hpre.2), hw.apart hs_qa (hpre.2) (by simp)⟩)) ?_
      rintro _ _ ⟨_, ⟨qp_21, qs_22, n_24, fq_23, f_25, rfl, rfl⟩, rfl⟩
      refine JL.pure rfl (PO.assign (v := .int .i64 ((n_24 : Nat) : Int)) rfl) ?_
      refine JL.nil ?_
      refine JQ.seq ?_
      refine JC.seq ?_
      refine JC.region ?_
      refine JL.pure rfl (PO.move (v := .pointer (some ⟨qb, 0, none⟩)) rfl) ?_
      refine JL.op rfl (JO.call [0] Tryz.call262 rfl (D_byte qb qa qc ql qp_21 qs_22 (by omega) (by omega)) rfl (fun w hw => ⟨hw.seeOut_ hs_qa (hpre.2), hw.apart hs_qa (hpre.2) (by simp)⟩)) ?_
      rintro _ _ ⟨_, ⟨qp_27, qs_28, n_30, fq_29, f_31, rfl, rfl⟩, rfl⟩
      refine JL.pure rfl (PO.assign (v := .int .i64 ((n_30 : Nat) : Int)) rfl) ?_
      refine JL.nil ?_
      refine JQ.seq ?_
      refine JC.seq ?_
      refine JC.region ?_
      refine JL.pure rfl (PO.move (v := .int .i64 ((n_12 : Nat) : Int)) rfl) ?_
      refine JL.pure rfl (PO.mul (c := ((n_12 * 16777216 : Nat) : Int)) rfl rfl (wr (by omega))) ?_
      refine JL.pure rfl (PO.move (v := .int .i64 ((n_18 : Nat) : Int)) rfl) ?_
      refine JL.pure rfl (PO.mul (c := ((n_18 * 65536 : Nat) : Int)) rfl rfl (wr (by omega))) ?_
      refine JL.pure rfl (PO.add (c := (((n_12 * 16777216) + (n_18 * 65536) : Nat) : Int)) rfl rfl (wr (by omega))) ?_
      refine JL.pure rfl (PO.move (v := .int .i64 ((n_24 : Nat) : Int)) rfl) ?_
      refine JL.pure rfl (PO.mul (c := ((n_24 * 256 : Nat) : Int)) rfl rfl (wr (by omega))) ?_
      refine JL.pure rfl (PO.add (c := ((((n_12 * 16777216) + (n_18 * 65536)) + (n_24 * 256) : Nat) : Int)) rfl rfl (wr (by omega))) ?_
      refine JL.pure rfl (PO.move (v := .int .i64 ((n_30 : Nat) : Int)) rfl) ?_
      refine JL.pure rfl (PO.add (c := (((((n_12 * 16777216) + (n_18 * 65536)) + (n_24 * 256)) + n_30 : Nat) : Int)) rfl rfl (wr (by omega))) ?_
      refine JL.pure rfl (PO.move (v := .int .i64 ((kk : Nat) : Int)) (congrArg (Value.int .i64) hkk)) ?_
      refine JL.pure rfl (PO.remN (c := ((((((n_12 * 16777216) + (n_18 * 65536)) + (n_24 * 256)) + n_30) % kk : Nat) : Int)) rfl rfl (by omega) (by omega) (by omega)) ?_
      refine JL.pure rfl (PO.assign (v := .int .i64 ((((((n_12 * 16777216) + (n_18 * 65536)) + (n_24 * 256)) + n_30) % kk : Nat) : Int)) rfl) ?_
      refine JL.nil ?_
      refine JQ.seq ?_
      refine JC.ret ?_
      refine Done.one (.inl rfl) rfl (RV.tmp (v := .int .i64 ((((((n_12 * 16777216) + (n_18 * 65536)) + (n_24 * 256)) + n_30) % kk : Nat) : Int)) rfl) (List.Sublist.refl _) ?_
      exact ⟨qp_27, qs_28, (((((n_12 * 16777216) + (n_18 * 65536)) + (n_24 * 256)) + n_30) % kk), (by omega), (.inl (by have hm_ := Nat.mod_lt (((((n_12 * 16777216) + (n_18 * 65536)) + (n_24 * 256)) + n_30)) (show 0 < kk by omega); omega)), rfl, rfl⟩

theorem D_once (qb : Nat) (qa : Option Addr) (qc : Nat) (ql : Str) (qp : Nat) (qs : Int) (hql : ql.length ≤ 1048576) (hqp : qp ≤ ql.length) (k : Int) (hk : -9223372036854775808 ≤ k ∧ k ≤ 9223372036854775807) :
    Ct Tryz.prog 199 [.pointer (some ⟨qb, 0, none⟩), .int .i64 k] [cb qb qa qc ql qp qs] (fun w => seesC w qa qc ql [cb qb qa qc ql qp qs]) (fun v A' => ∃ qp' qs' r0, qp' ≤ ql.length ∧ v = .bool r0 ∧ A' = [cb qb qa qc ql qp' qs']) := by
  refine Ct.intro Tryz.func199 rfl Tryz.ntmps199 (Nat.le_of_ble_eq_true rfl) fun w0 hpre => ?_
  have hs_qa : Sees w0 _ _ _ _ := hpre.1
  refine JC.seq ?_
  refine JC.region ?_
  refine JL.pure rfl (PO.assign (v := .bool false) rfl) ?_
  refine JL.nil ?_
  refine JQ.seq ?_
  refine JC.seq ?_
  refine JC.region ?_
  refine JL.pure rfl (PO.move (v := .pointer (some ⟨qb, 0, none⟩)) rfl) ?_
  refine JL.pure rfl (PO.move (v := .int .i64 k) rfl) ?_
  refine JL.op rfl (JO.call [0] Tryz.call173 rfl (D_below qb qa qc ql qp qs (by omega) (by omega) k (by omega)) rfl (fun w hw => ⟨hw.seeOut_ hs_qa (hpre.2), hw.apart hs_qa (hpre.2) (by simp)⟩)) ?_
  rintro _ _ ⟨_, ⟨qp_1, qs_2, n_4, fq_3, f_5, rfl, rfl⟩, rfl⟩
  refine JL.pure rfl (PO.eqlI rfl rfl) ?_
  refine JL.pure rfl (PO.assign (v := .bool (decide (((n_4 : Nat) : Int) = 0))) rfl) ?_
  refine JL.nil ?_
  refine JQ.seq ?_
  refine JC.ret ?_
  refine Done.one (.inl rfl) rfl (RV.tmp (v := .bool (decide (((n_4 : Nat) : Int) = 0))) rfl) (List.Sublist.refl _) ?_
  exact ⟨qp_1, qs_2, (decide (((n_4 : Nat) : Int) = 0)), (by omega), rfl, rfl⟩

theorem D_pick (qb : Nat) (qa : Option Addr) (qc : Nat) (ql : Str) (qp : Nat) (qs : Int) (la : Option Addr) (lc : Nat) (l : List Str) (hql : ql.length ≤ 1048576) (hqp : qp ≤ ql.length)  (hl0 : 0 < l.length) (hl1 : l.length ≤ 1000) :
    Ct Tryz.prog 259 [.pointer (some ⟨qb, 0, none⟩), .slice la l.length lc] [cb qb qa qc ql qp qs, rS la lc l] (fun w => seesC w qa qc ql [cb qb qa qc ql qp qs, rS la lc l]) (fun v A' => ∃ qp' qs' r0, qp' ≤ ql.length ∧ (r0 ∈ l) ∧ v = str r0 ∧ A' = [cb qb qa qc ql qp' qs']) := by
  refine Ct.intro Tryz.func259 rfl Tryz.ntmps259 (Nat.le_of_ble_eq_true rfl) fun w0 hpre => ?_
  have hs_qa : Sees w0 _ _ _ _ := hpre.1
  refine JC.seq ?_
  refine JC.region ?_
  refine JL.pure rfl (PO.assign (v := str []) rfl) ?_
  refine JL.nil ?_
  refine JQ.seq ?_
  refine JC.seq ?_
  refine JC.region ?_
  refine JL.pure rfl (PO.move (v := .slice la l.length lc) rfl) ?_
  refine JL.pure rfl (PO.move (v := .pointer (some ⟨qb, 0, none⟩)) rfl) ?_
  refine JL.pure rfl (PO.move (v := .slice la l.length lc) rfl) ?_
  refine JL.pure rfl (PO.lenV Tryz.underlying23 rfl) ?_
  refine JL.op rfl (JO.call [0] Tryz.call173 rfl (D_below qb qa qc ql qp qs (by omega) (by omega) ((l.length : Nat) : Int) (by omega)) rfl (fun w hw => ⟨hw.seeOut_ hs_qa (hpre.2), hw.apart hs_qa (hpre.2) (by simp)⟩)) ?_
  rintro _ _ ⟨_, ⟨qp_1, qs_2, n_4, fq_3, f_5, rfl, rfl⟩, rfl⟩
  refine JL.facts fun hst => ?_
  obtain ⟨hr_7, hr_7b, -⟩ := row_some 1 rfl (by omega) hst
  refine JL.pure rfl (PO.indexAddrV (i := n_4) Tryz.underlying23 Tryz.sizeOf9 hr_7 hr_7b rfl rfl (by omega)) ?_
  refine JL.ld rfl (LO.loadR1 1 (v := str (l.getD n_4 [])) rfl rfl Tryz.isAgg9 (atS (by omega))) ?_
  refine JL.pure rfl (PO.assign (v := str (l.getD n_4 [])) rfl) ?_
  refine JL.nil ?_
  refine JQ.seq ?_
  refine JC.ret ?_
  refine Done.one (.inl rfl) rfl (RV.tmp (v := str (l.getD n_4 [])) rfl) (List.sublist_append_left [cb qb qa qc ql qp_1 qs_2] [rS la lc l]) ?_
  exact ⟨qp_1, qs_2, (l.getD n_4 []), (by omega), (getD_mem (by omega)), rfl, rfl⟩

theorem D_pickInt (qb : Nat) (qa : Option Addr) (qc : Nat) (ql : Str) (qp : Nat) (qs : Int) (la : Option Addr) (lc : Nat) (l : List Int) (hql : ql.length ≤ 1048576) (hqp : qp ≤ ql.length)  (hl0 : 0 < l.length) (hl1 : l.length ≤ 1000) :
    Ct Tryz.prog 162 [.pointer (some ⟨qb, 0, none⟩), .slice la l.length lc] [cb qb qa qc ql qp qs, rI la lc l] (fun w => seesC w qa qc ql [cb qb qa qc ql qp qs, rI la lc l]) (fun v A' => ∃ qp' qs' r0, qp' ≤ ql.length ∧ (r0 ∈ l) ∧ v = .int .i64 r0 ∧ A' = [cb qb qa qc ql qp' qs']) := by
  refine Ct.intro Tryz.func162 rfl Tryz.ntmps162 (Nat.le_of_ble_eq_true rfl) fun w0 hpre => ?_
  have hs_qa : Sees w0 _ _ _ _ := hpre.1
  refine JC.seq ?_
  refine JC.region ?_
  refine JL.pure rfl (PO.assign (v := .int .i64 0) rfl) ?_
  refine JL.nil ?_
  refine JQ.seq ?_
  refine JC.seq ?_
  refine JC.region ?_
  refine JL.pure rfl (PO.move (v := .slice la l.length lc) rfl) ?_
  refine JL.pure rfl (PO.move (v := .pointer (some ⟨qb, 0, none⟩)) rfl) ?_
  refine JL.pure rfl (PO.move (v := .slice la l.length lc) rfl) ?_
  refine JL.pure rfl (PO.lenV Tryz.underlying70 rfl) ?_
  refine JL.op rfl (JO.call [0] Tryz.call173 rfl (D_below qb qa qc ql qp qs (by omega) (by omega) ((l.length : Nat) : Int) (by omega)) rfl (fun w hw => ⟨hw.seeOut_ hs_qa (hpre.2), hw.apart hs_qa (hpre.2) (by simp)⟩)) ?_
  rintro _ _ ⟨_, ⟨qp_1, qs_2, n_4, fq_3, f_5, rfl, rfl⟩, rfl⟩
  refine JL.facts fun hst => ?_
  obtain ⟨hr_7, hr_7b, -⟩ := row_some 1 rfl (by omega) hst
  refine JL.pure rfl (PO.indexAddrV (i := n_4) Tryz.underlying70 Tryz.sizeOf3 hr_7 hr_7b rfl rfl (by omega)) ?_
  refine JL.ld rfl (LO.loadR1 1 (v := .int .i64 (l.getD n_4 0)) rfl rfl Tryz.isAgg3 (atI (by omega))) ?_
  refine JL.pure rfl (PO.assign (v := .int .i64 (l.getD n_4 0)) rfl) ?_
  refine JL.nil ?_
  refine JQ.seq ?_
  refine JC.ret ?_
  refine Done.one (.inl rfl) rfl (RV.tmp (v := .int .i64 (l.getD n_4 0)) rfl) (List.sublist_append_left [cb qb qa qc ql qp_1 qs_2] [rI la lc l]) ?_
  exact ⟨qp_1, qs_2, (l.getD n_4 0), (by omega), (getD_mem (by omega)), rfl, rfl⟩

theorem D_new (pa : Option Addr) (pc : Nat) (p : Str) (hp : p.length ≤ 1048576)  :
    Ct Tryz.prog 157 [.slice pa p.length pc] [] (fun w => Sees w (.slice pa p.length pc) 1 p.length (p.map encB)) (fun v A' => ∃ r0 r0s, True ∧ v = .pointer (some ⟨r0, 0, none⟩) ∧ A' = [cb r0 pa pc p 0 r0s]) := by
  refine Ct.intro Tryz.func157 rfl Tryz.ntmps157 (Nat.le_of_ble_eq_true rfl) fun w0 hpre => ?_
  have hs_pa : Sees w0 _ _ _ _ := hpre
  refine JC.seq ?_
  refine JC.region ?_
  refine JL.pure rfl (PO.assign (v := .pointer none) rfl) ?_
  refine JL.nil ?_
  refine JQ.seq ?_
  refine JC.seq ?_
  refine JC.region ?_
  refine JL.pure rfl (PO.move (v := .slice pa p.length pc) rfl) ?_
  refine JL.pure rfl (PO.lenV Tryz.underlying44 rfl) ?_
  refine JL.pure rfl (PO.add (c := ((94701 + p.length : Nat) : Int)) rfl rfl (wr (by omega))) ?_
  refine JL.pure rfl (PO.assign (v := .int .i64 ((94701 + p.length : Nat) : Int)) rfl) ?_
  refine JL.nil ?_
  refine JQ.seq ?_
  refine JC.seq ?_
  refine JC.seq ?_
  refine JC.region ?_
  refine JL.pure rfl (PO.assign (v := .int .i64 0) rfl) ?_
  refine JL.nil ?_
  refine JQ.seq ?_
  refine JC.block ?_
  refine JC.loop (fun k_ e_ L_ => ∃ i_ : Nat, ∃ s_ : Int, (i_ ≤ p.length) ∧ (0 ≤ s_ ∧ s_ ≤ 1073741823) ∧ e_ 0 = .slice pa p.length pc ∧ e_ 2 = .pointer none ∧ e_ 3 = .int .i64 s_ ∧ e_ 4 = .int .i64 ((i_ : Nat) : Int) ∧ L_ = [] ∧ k_ = 1048577 - i_) _ ⟨0, ((94701 + p.length : Nat) : Int), (by omega), (by omega), rfl, rfl, rfl, rfl, rfl, rfl⟩ ?_
  rintro _ e_1 _ ⟨i_, s_, hi, hs, he_2, he_3, he_4, he_5, rfl, rfl⟩
  refine JC.seq ?_
  refine JC.seq ?_
  refine JC.region ?_
  refine JL.pure rfl (PO.move (v := .int .i64 ((i_ : Nat) : Int)) he_5) ?_
  refine JL.pure rfl (PO.move (v := .slice pa p.length pc) he_2) ?_
  refine JL.pure rfl (PO.lenV Tryz.underlying44 rfl) ?_
  refine JL.pure rfl (PO.lss rfl rfl) ?_
  refine JL.pure rfl (PO.move (v := .bool (decide (((i_ : Nat) : Int) < ((p.length : Nat) : Int)))) rfl) ?_
  by_cases h_6 : ((i_ : Nat) : Int) < ((p.length : Nat) : Int)
  · skip
    have hu8 := UInt8.toNat_lt (p.getD i_ 0)
    refine JL.guardOn rfl rfl rfl (congrArg Value.bool (decide_eq_true h_6)) (JO.ofLO (LO.pure (PO.move (v := .int .i64 ((i_ : Nat) : Int)) he_5))) ?_
    rintro _ _ ⟨rfl, rfl⟩
    refine JL.guardOn rfl rfl rfl (congrArg Value.bool (decide_eq_true h_6)) (JO.ofLO (LO.pure (PO.lss rfl rfl))) ?_
    rintro _ _ ⟨rfl, rfl⟩
    refine JL.pure rfl (PO.pickT (v := .bool (decide (((i_ : Nat) : Int) < 4000))) (congrArg Value.bool (decide_eq_true h_6)) rfl) ?_
    refine JL.nil ?_
    refine JQ.seq ?_
    by_cases h_7 : ((i_ : Nat) : Int) < 4000
    · skip
      refine JC.condT (congrArg Value.bool (decide_eq_true h_7)) ?_
      refine JC.skip ?_
      refine JQ.seq ?_
      refine JC.seq ?_
      refine JC.block ?_
      refine JC.region ?_
      refine JL.pure rfl (PO.move (v := .int .i64 s_) he_4) ?_
      refine JL.pure rfl (PO.mul (c := s_ * 131) rfl rfl (wr (by omega))) ?_
      refine JL.pure rfl (PO.move (v := .slice pa p.length pc) he_2) ?_
      refine JL.pure rfl (PO.move (v := .int .i64 ((i_ : Nat) : Int)) he_5) ?_
      obtain ⟨hr_8, hr_8b, -⟩ := sees_some hs_pa (by omega)
      refine JL.pure rfl (PO.indexAddrV (i := i_) Tryz.underlying44 Tryz.sizeOf5 hr_8 hr_8b rfl rfl (by omega)) ?_
      refine JL.ld rfl (LO.loadS1 (v := .int .u8 (((p.getD i_ 0).toNat : Nat) : Int)) hs_pa (fun _ _ => List.not_mem_nil) rfl Tryz.isAgg5 (atB (by omega))) ?_
      refine JL.pure rfl (PO.convI (c := (((p.getD i_ 0).toNat : Nat) : Int)) Tryz.underlying5 Tryz.underlying3 rfl (wr (by omega))) ?_
      refine JL.pure rfl (PO.add (c := (s_ * 131) + (((p.getD i_ 0).toNat : Nat) : Int)) rfl rfl (wr (by omega))) ?_
      refine JL.pure rfl (PO.add (c := ((s_ * 131) + (((p.getD i_ 0).toNat : Nat) : Int)) + 7) rfl rfl (wr (by omega))) ?_
      refine JL.pure rfl (PO.bits (by simp) rfl rfl) ?_
      refine JL.pure rfl (PO.assign (v := .int .i64 (Go.bits .and .i64 (((s_ * 131) + (((p.getD i_ 0).toNat : Nat) : Int)) + 7) 1073741823)) rfl) ?_
      refine JL.nil ?_
      refine JQ.blockN ?_
      refine JQ.seq ?_
      refine JC.region ?_
      refine JL.pure rfl (PO.move (v := .int .i64 ((i_ : Nat) : Int)) he_5) ?_
      refine JL.pure rfl (PO.add (c := ((i_ + 1 : Nat) : Int)) rfl rfl (wr (by omega))) ?_
      refine JL.pure rfl (PO.assign (v := .int .i64 ((i_ + 1 : Nat) : Int)) rfl) ?_
      refine JL.nil ?_
      refine JQ.pick [] (A := []) rfl ?_
      refine JQ.again (1048577 - (i_ + 1)) (by omega) ⟨(i_ + 1), (Go.bits .and .i64 (((s_ * 131) + (((p.getD i_ 0).toNat : Nat) : Int)) + 7) 1073741823), (by omega), (and_bnd _ _ (by decide) (by decide)), he_2, he_3, rfl, rfl, rfl, rfl⟩
    · skip
      refine JC.condF (congrArg Value.bool (decide_eq_false h_7)) ?_
      refine JC.exit ?_
      refine JQ.thenExit ?_
      refine JQ.thenExit ?_
      refine JQ.blockE ?_
      refine JQ.seq ?_
      refine JC.seq ?_
      refine JC.region ?_
      refine JL.pure rfl (PO.move (v := .slice pa p.length pc) he_2) ?_
      refine JL.pure rfl (PO.move (v := .int .i64 s_) he_4) ?_
      refine JL.pure rfl (PO.build (ps := [(0, .slice pa p.length pc), (2, .int .i64 s_)]) (cs := [.slice pa p.length pc, .int .i64 0, .int .i64 s_]) rfl (by kernel_rfl)) ?_
      refine JL.op rfl (JO.box (cs := [.slice pa p.length pc, .int .i64 0, .int .i64 s_]) rfl rfl) ?_
      rintro _ _ ⟨b_9, rfl, rfl⟩
      refine JL.pure rfl (PO.assign (v := .pointer (some ⟨b_9, 0, none⟩)) rfl) ?_
      refine JL.nil ?_
      refine JQ.seq ?_
      refine JC.ret ?_
      refine Done.one (.inl rfl) rfl (RV.tmp (v := .pointer (some ⟨b_9, 0, none⟩)) rfl) (List.Sublist.refl _) ?_
      exact ⟨b_9, s_, trivial, rfl, rfl⟩
  · skip
    refine JL.guardOff (b := false) rfl rfl rfl (congrArg Value.bool (decide_eq_false h_6)) ?_
    refine JL.guardOff (b := false) rfl rfl rfl (congrArg Value.bool (decide_eq_false h_6)) ?_
    refine JL.pure rfl (PO.pickF (v := .bool false) (congrArg Value.bool (decide_eq_false h_6)) rfl) ?_
    refine JL.nil ?_
    refine JQ.seq ?_
    refine JC.condF (congrArg Value.bool rfl) ?_
    refine JC.exit ?_
    refine JQ.thenExit ?_
    refine JQ.thenExit ?_
    refine JQ.blockE ?_
    refine JQ.seq ?_
    refine JC.seq ?_
    refine JC.region ?_
    refine JL.pure rfl (PO.move (v := .slice pa p.length pc) he_2) ?_
    refine JL.pure rfl (PO.move (v := .int .i64 s_) he_4) ?_
    refine JL.pure rfl (PO.build (ps := [(0, .slice pa p.length pc), (2, .int .i64 s_)]) (cs := [.slice pa p.length pc, .int .i64 0, .int .i64 s_]) rfl (by kernel_rfl)) ?_
    refine JL.op rfl (JO.box (cs := [.slice pa p.length pc, .int .i64 0, .int .i64 s_]) rfl rfl) ?_
    rintro _ _ ⟨b_10, rfl, rfl⟩
    refine JL.pure rfl (PO.assign (v := .pointer (some ⟨b_10, 0, none⟩)) rfl) ?_
    refine JL.nil ?_
    refine JQ.seq ?_
    refine JC.ret ?_
    refine Done.one (.inl rfl) rfl (RV.tmp (v := .pointer (some ⟨b_10, 0, none⟩)) rfl) (List.Sublist.refl _) ?_
    exact ⟨b_10, s_, trivial, rfl, rfl⟩

theorem D_text (qb : Nat) (qa : Option Addr) (qc : Nat) (ql : Str) (qp : Nat) (qs : Int) (hql : ql.length ≤ 1048576) (hqp : qp ≤ ql.length) (k : Int) (hk : -9223372036854775808 ≤ k ∧ k ≤ 9223372036854775807) :
    Ct Tryz.prog 161 [.pointer (some ⟨qb, 0, none⟩), .int .i64 k] [cb qb qa qc ql qp qs] (fun w => seesC w qa qc ql [cb qb qa qc ql qp qs]) (fun v A' => ∃ qp' qs' r0, qp' ≤ ql.length ∧ (r0.length ≤ 5000 ∧ (((r0.length : Nat) : Int) ≤ k ∨ r0.length = 0)) ∧ v = str r0 ∧ A' = [cb qb qa qc ql qp' qs']) := by
  refine Ct.intro Tryz.func161 rfl Tryz.ntmps161 (Nat.le_of_ble_eq_true rfl) fun w0 hpre => ?_
  have hs_qa : Sees w0 _ _ _ _ := hpre.1
  refine JC.seq ?_
  refine JC.region ?_
  refine JL.pure rfl (PO.assign (v := str []) rfl) ?_
  refine JL.nil ?_
  refine JQ.seq ?_
  refine JC.seq ?_
  refine JC.seq ?_
  refine JC.region ?_
  refine JL.pure rfl (PO.move (v := .int .i64 k) rfl) ?_
  refine JL.pure rfl (PO.gtr rfl rfl) ?_
  refine JL.nil ?_
  refine JQ.seq ?_
  by_cases h_1 : 5000 < k
  · skip
    refine JC.condT (congrArg Value.bool (decide_eq_true h_1)) ?_
    refine JC.region ?_
    refine JL.pure rfl (PO.assign (v := .int .i64 5000) rfl) ?_
    refine JL.nil ?_
    refine JQ.seq ?_
    refine JC.seq ?_
    refine JC.region ?_
    refine JL.op rfl (JO.buildSlice (ps := []) (cur := #[]) Tryz.underlying44 Tryz.sizeOf5 Tryz.zeroValue5 rfl (by kernel_rfl) (by decide) (by decide)) ?_
    rintro _ _ ⟨a_2, rfl, rfl⟩
    refine JL.pure rfl (PO.assign (v := .slice a_2 0 0) rfl) ?_
    refine JL.nil ?_
    refine JQ.seq ?_
    refine JC.seq ?_
    refine JC.seq ?_
    refine JC.region ?_
    refine JL.pure rfl (PO.assign (v := .int .i64 0) rfl) ?_
    refine JL.nil ?_
    refine JQ.seq ?_
    refine JC.block ?_
    refine JC.loop (fun k_ e_ L_ => ∃ i_ : Nat, ∃ p_q : Nat, ∃ s_q : Int, ∃ o_a : Option Addr, ∃ o_c : Nat, ∃ o_n : Nat, ∃ o_ : Str, (p_q ≤ ql.length) ∧ (o_.length = o_n) ∧ (i_ ≤ 5000 ∧ (((i_ : Nat) : Int) ≤ k ∨ i_ = 0)) ∧ (o_.length = i_) ∧ e_ 0 = .pointer (some ⟨qb, 0, none⟩) ∧ e_ 1 = .int .i64 5000 ∧ e_ 4 = str [] ∧ e_ 5 = .slice o_a o_n o_c ∧ e_ 6 = .int .i64 ((i_ : Nat) : Int) ∧ L_ = [Res.row (.slice o_a o_n o_c) 5 1 o_n (o_.map encB), cb qb qa qc ql p_q s_q] ∧ k_ = 5001 - i_) _ ⟨0, qp, qs, a_2, 0, 0, ([] : List UInt8), (by omega), (by first | rfl | omega | (simp only [List.length_append, List.length_cons, List.length_nil, List.length_set]; omega) | simp), (by omega), (by rfl), rfl, rfl, rfl, rfl, rfl, rfl, rfl⟩ ?_
    rintro _ e_3 _ ⟨i_, p_q, s_q, o_a, o_c, o_n, o_, hpq_, ho_n, hi, ho, he_4, he_5, he_6, he_7, he_8, rfl, rfl⟩
    refine JC.seq ?_
    refine JC.seq ?_
    refine JC.region ?_
    refine JL.pure rfl (PO.move (v := .int .i64 ((i_ : Nat) : Int)) he_8) ?_
    refine JL.pure rfl (PO.move (v := .int .i64 5000) he_5) ?_
    refine JL.pure rfl (PO.lss rfl rfl) ?_
    refine JL.nil ?_
    refine JQ.seq ?_
    by_cases h_9 : ((i_ : Nat) : Int) < 5000
    · skip
      refine JC.condT (congrArg Value.bool (decide_eq_true h_9)) ?_
      refine JC.skip ?_
      refine JQ.seq ?_
      refine JC.seq ?_
      refine JC.block ?_
      refine JC.region ?_
      refine JL.pure rfl (PO.move (v := .slice o_a o_n o_c) he_7) ?_
      refine JL.pure rfl (PO.move (v := .pointer (some ⟨qb, 0, none⟩)) he_4) ?_
      refine JL.op rfl (JO.call [1] Tryz.call262 rfl (D_byte qb qa qc ql p_q s_q (by omega) (by omega)) rfl (fun w hw => ⟨hw.seeOut_ hs_qa (hpre.2), hw.apart hs_qa (hpre.2) (by simp)⟩)) ?_
      rintro _ _ ⟨_, ⟨qp_10, qs_11, n_13, fq_12, f_14, rfl, rfl⟩, rfl⟩
      refine JL.pure rfl (PO.convI (c := (((UInt8.ofNat n_13).toNat : Nat) : Int)) Tryz.underlying3 Tryz.underlying5 rfl (wr8u (c := UInt8.ofNat n_13) (by omega) (by rw [Int.toNat_natCast]))) ?_
      refine JL.op rfl (JO.buildSlice (ps := [(0, .int .u8 (((UInt8.ofNat n_13).toNat : Nat) : Int))]) (cur := #[.int .u8 (((UInt8.ofNat n_13).toNat : Nat) : Int)]) Tryz.underlying44 Tryz.sizeOf5 Tryz.zeroValue5 rfl (by kernel_rfl) (by decide) (by decide)) ?_
      rintro _ _ ⟨a_16, rfl, rfl⟩
      refine JL.op rfl (JO.append' 2 (q := 1) (news := ([UInt8.ofNat n_13] : List UInt8).map encB) (n' := (o_ ++ ([UInt8.ofNat n_13] : List UInt8)).length) (cs' := (o_ ++ ([UInt8.ofNat n_13] : List UInt8)).map encB) rfl Tryz.underlying44 Tryz.underlying44 Tryz.typeInfo5 rfl (by' := 1) rfl rfl rfl rfl rfl (fun w hw => Src.sees (hw.see (i := 0) rfl) (oneB _)) (by (try simp only [List.length_append, List.length_cons, List.length_nil, List.length_take, List.length_drop]); omega) (by (try simp only [List.length_append, List.length_cons, List.length_nil, List.length_take, List.length_drop]); omega) (by simp only [List.length_append, List.length_take, List.length_drop, List.length_cons, List.length_nil] <;> first | rfl | omega) (by simp only [List.map_append])) ?_
      rintro _ _ ⟨a_17, c_18, rfl, rfl⟩
      refine JL.pure rfl (PO.assign (v := .slice a_17 ((o_ ++ ([UInt8.ofNat n_13] : List UInt8)).length) c_18) rfl) ?_
      refine JL.nil ?_
      refine JQ.blockN ?_
      refine JQ.seq ?_
      refine JC.region ?_
      refine JL.pure rfl (PO.move (v := .int .i64 ((i_ : Nat) : Int)) he_8) ?_
      refine JL.pure rfl (PO.add (c := ((i_ + 1 : Nat) : Int)) rfl rfl (wr (by omega))) ?_
      refine JL.pure rfl (PO.assign (v := .int .i64 ((i_ + 1 : Nat) : Int)) rfl) ?_
      refine JL.nil ?_
      refine JQ.pick [2, 1] (A := [Res.row (.slice a_17 ((o_ ++ ([UInt8.ofNat n_13] : List UInt8)).length) c_18) 5 1 ((o_ ++ ([UInt8.ofNat n_13] : List UInt8)).length) ((o_ ++ ([UInt8.ofNat n_13] : List UInt8)).map encB), cb qb qa qc ql qp_10 qs_11]) rfl ?_
      refine JQ.again (5001 - (i_ + 1)) (by omega) ⟨(i_ + 1), qp_10, qs_11, a_17, c_18, ((o_ ++ ([UInt8.ofNat n_13] : List UInt8)).length), (o_ ++ ([UInt8.ofNat n_13] : List UInt8)), (by omega), (by first | rfl | omega | (simp only [List.length_append, List.length_cons, List.length_nil, List.length_set]; omega) | simp), (by omega), (by first | omega | (simp only [List.length_append, List.length_cons, List.length_nil, List.length_set]; omega)), he_4, he_5, he_6, rfl, rfl, rfl, rfl⟩
    · skip
      refine JC.condF (congrArg Value.bool (decide_eq_false h_9)) ?_
      refine JC.exit ?_
      refine JQ.thenExit ?_
      refine JQ.thenExit ?_
      refine JQ.blockE ?_
      refine JQ.seq ?_
      refine JC.seq ?_
      refine JC.region ?_
      refine JL.pure rfl (PO.move (v := .slice o_a o_n o_c) he_7) ?_
      refine JL.ld rfl (LO.toStr 0 o_ rfl Tryz.underlying44 Tryz.underlying5 Tryz.underlying9 rfl rfl) ?_
      refine JL.pure rfl (PO.assign (v := str o_) rfl) ?_
      refine JL.nil ?_
      refine JQ.seq ?_
      refine JC.ret ?_
      refine JQ.perm (pick_perm [1] (A := [cb qb qa qc ql p_q s_q]) (F := [Res.row (.slice o_a o_n o_c) 5 1 o_n (o_.map encB)]) rfl).symm ?_
      refine Done.one (.inl rfl) rfl (RV.tmp (v := str o_) rfl) (List.sublist_append_left [cb qb qa qc ql p_q s_q] [Res.row (.slice o_a o_n o_c) 5 1 o_n (o_.map encB)]) ?_
      exact ⟨p_q, s_q, o_, (by omega), (by first | omega | (simp only [List.length_append, List.length_cons, List.length_nil, List.length_take, List.length_drop]; omega)), rfl, rfl⟩
  · skip
    refine JC.condF (congrArg Value.bool (decide_eq_false h_1)) ?_
    refine JC.skip ?_
    refine JQ.seq ?_
    refine JC.seq ?_
    refine JC.region ?_
    refine JL.op rfl (JO.buildSlice (ps := []) (cur := #[]) Tryz.underlying44 Tryz.sizeOf5 Tryz.zeroValue5 rfl (by kernel_rfl) (by decide) (by decide)) ?_
    rintro _ _ ⟨a_19, rfl, rfl⟩
    refine JL.pure rfl (PO.assign (v := .slice a_19 0 0) rfl) ?_
    refine JL.nil ?_
    refine JQ.seq ?_
    refine JC.seq ?_
    refine JC.seq ?_
    refine JC.region ?_
    refine JL.pure rfl (PO.assign (v := .int .i64 0) rfl) ?_
    refine JL.nil ?_
    refine JQ.seq ?_
    refine JC.block ?_
    refine JC.loop (fun k_ e_ L_ => ∃ i_ : Nat, ∃ p_q : Nat, ∃ s_q : Int, ∃ o_a : Option Addr, ∃ o_c : Nat, ∃ o_n : Nat, ∃ o_ : Str, (p_q ≤ ql.length) ∧ (o_.length = o_n) ∧ (i_ ≤ 5000 ∧ (((i_ : Nat) : Int) ≤ k ∨ i_ = 0)) ∧ (o_.length = i_) ∧ e_ 0 = .pointer (some ⟨qb, 0, none⟩) ∧ e_ 1 = .int .i64 k ∧ e_ 4 = str [] ∧ e_ 5 = .slice o_a o_n o_c ∧ e_ 6 = .int .i64 ((i_ : Nat) : Int) ∧ L_ = [Res.row (.slice o_a o_n o_c) 5 1 o_n (o_.map encB), cb qb qa qc ql p_q s_q] ∧ k_ = 5001 - i_) _ ⟨0, qp, qs, a_19, 0, 0, ([] : List UInt8), (by omega), (by first | rfl | omega | (simp only [List.length_append, List.length_cons, List.length_nil, List.length_set]; omega) | simp), (by omega), (by rfl), rfl, rfl, rfl, rfl, rfl, rfl, rfl⟩ ?_
    rintro _ e_20 _ ⟨i_, p_q, s_q, o_a, o_c, o_n, o_, hpq_, ho_n, hi, ho, he_21, he_22, he_23, he_24, he_25, rfl, rfl⟩
    refine JC.seq ?_
    refine JC.seq ?_
    refine JC.region ?_
    refine JL.pure rfl (PO.move (v := .int .i64 ((i_ : Nat) : Int)) he_25) ?_
    refine JL.pure rfl (PO.move (v := .int .i64 k) he_22) ?_
    refine JL.pure rfl (PO.lss rfl rfl) ?_
    refine JL.nil ?_
    refine JQ.seq ?_
    by_cases h_26 : ((i_ : Nat) : Int) < k
    · skip
      refine JC.condT (congrArg Value.bool (decide_eq_true h_26)) ?_
      refine JC.skip ?_
      refine JQ.seq ?_
      refine JC.seq ?_
      refine JC.block ?_
      refine JC.region ?_
      refine JL.pure rfl (PO.move (v := .slice o_a o_n o_c) he_24) ?_
      refine JL.pure rfl (PO.move (v := .pointer (some ⟨qb, 0, none⟩)) he_21) ?_
      refine JL.op rfl (JO.call [1] Tryz.call262 rfl (D_byte qb qa qc ql p_q s_q (by omega) (by omega)) rfl (fun w hw => ⟨hw.seeOut_ hs_qa (hpre.2), hw.apart hs_qa (hpre.2) (by simp)⟩)) ?_
      rintro _ _ ⟨_, ⟨qp_27, qs_28, n_30, fq_29, f_31, rfl, rfl⟩, rfl⟩
      refine JL.pure rfl (PO.convI (c := (((UInt8.ofNat n_30).toNat : Nat) : Int)) Tryz.underlying3 Tryz.underlying5 rfl (wr8u (c := UInt8.ofNat n_30) (by omega) (by rw [Int.toNat_natCast]))) ?_
      refine JL.op rfl (JO.buildSlice (ps := [(0, .int .u8 (((UInt8.ofNat n_30).toNat : Nat) : Int))]) (cur := #[.int .u8 (((UInt8.ofNat n_30).toNat : Nat) : Int)]) Tryz.underlying44 Tryz.sizeOf5 Tryz.zeroValue5 rfl (by kernel_rfl) (by decide) (by decide)) ?_
      rintro _ _ ⟨a_33, rfl, rfl⟩
      refine JL.op rfl (JO.append' 2 (q := 1) (news := ([UInt8.ofNat n_30] : List UInt8).map encB) (n' := (o_ ++ ([UInt8.ofNat n_30] : List UInt8)).length) (cs' := (o_ ++ ([UInt8.ofNat n_30] : List UInt8)).map encB) rfl Tryz.underlying44 Tryz.underlying44 Tryz.typeInfo5 rfl (by' := 1) rfl rfl rfl rfl rfl (fun w hw => Src.sees (hw.see (i := 0) rfl) (oneB _)) (by (try simp only [List.length_append, List.length_cons, List.length_nil, List.length_take, List.length_drop]); omega) (by (try simp only [List.length_append, List.length_cons, List.length_nil, List.length_take, List.length_drop]); omega) (by simp only [List.length_append, List.length_take, List.length_drop, List.length_cons, List.length_nil] <;> first | rfl | omega) (by simp only [List.map_append])) ?_
      rintro _ _ ⟨a_34, c_35, rfl, rfl⟩
      refine JL.pure rfl (PO.assign (v := .slice a_34 ((o_ ++ ([UInt8.ofNat n_30] : List UInt8)).length) c_35) rfl) ?_
      refine JL.nil ?_
      refine JQ.blockN ?_
      refine JQ.seq ?_
      refine JC.region ?_
      refine JL.pure rfl (PO.move (v := .int .i64 ((i_ : Nat) : Int)) he_25) ?_
      refine JL.pure rfl (PO.add (c := ((i_ + 1 : Nat) : Int)) rfl rfl (wr (by omega))) ?_
      refine JL.pure rfl (PO.assign (v := .int .i64 ((i_ + 1 : Nat) : Int)) rfl) ?_
      refine JL.nil ?_
      refine JQ.pick [2, 1] (A := [Res.row (.slice a_34 ((o_ ++ ([UInt8.ofNat n_30] : List UInt8)).length) c_35) 5 1 ((o_ ++ ([UInt8.ofNat n_30] : List UInt8)).length) ((o_ ++ ([UInt8.ofNat n_30] : List UInt8)).map encB), cb qb qa qc ql qp_27 qs_28]) rfl ?_
      refine JQ.again (5001 - (i_ + 1)) (by omega) ⟨(i_ + 1), qp_27, qs_28, a_34, c_35, ((o_ ++ ([UInt8.ofNat n_30] : List UInt8)).length), (o_ ++ ([UInt8.ofNat n_30] : List UInt8)), (by omega), (by first | rfl | omega | (simp only [List.length_append, List.length_cons, List.length_nil, List.length_set]; omega) | simp), (by omega), (by first | omega | (simp only [List.length_append, List.length_cons, List.length_nil, List.length_set]; omega)), he_21, he_22, he_23, rfl, rfl, rfl, rfl⟩
    · skip
      refine JC.condF (congrArg Value.bool (decide_eq_false h_26)) ?_
      refine JC.exit ?_
      refine JQ.thenExit ?_
      refine JQ.thenExit ?_
      refine JQ.blockE ?_
      refine JQ.seq ?_
      refine JC.seq ?_
      refine JC.region ?_
      refine JL.pure rfl (PO.move (v := .slice o_a o_n o_c) he_24) ?_
      refine JL.ld rfl (LO.toStr 0 o_ rfl Tryz.underlying44 Tryz.underlying5 Tryz.underlying9 rfl rfl) ?_
      refine JL.pure rfl (PO.assign (v := str o_) rfl) ?_
      refine JL.nil ?_
      refine JQ.seq ?_
      refine JC.ret ?_
      refine JQ.perm (pick_perm [1] (A := [cb qb qa qc ql p_q s_q]) (F := [Res.row (.slice o_a o_n o_c) 5 1 o_n (o_.map encB)]) rfl).symm ?_
      refine Done.one (.inl rfl) rfl (RV.tmp (v := str o_) rfl) (List.sublist_append_left [cb qb qa qc ql p_q s_q] [Res.row (.slice o_a o_n o_c) 5 1 o_n (o_.map encB)]) ?_
      exact ⟨p_q, s_q, o_, (by omega), (by first | omega | (simp only [List.length_append, List.length_cons, List.length_nil, List.length_take, List.length_drop]; omega)), rfl, rfl⟩

end Go.Proofs.YtenfajgpdhgknaaGreatDoor
