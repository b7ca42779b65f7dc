/-
Texts of the walk, joined: what each one proves stands at its theorems.
-/
import Derived.Test.YthlfmbbaomdciaaGreatDoorB0DatSt
import Derived.Laws.StructEq
import Derived.Laws.Small
set_option linter.unusedSimpArgs false
set_option linter.unusedVariables false
set_option linter.unnecessarySimpa false
namespace Go.Proofs.YthlfmbbaomdciaaGreatDoor
open Go Go.RowKit
section
variable {P : Program} {ops : Array Oper} {Q : Exit → Act → World → Prop} {n : Nat} {w0 : World} {D : List Nat} {L : List Res} {e : Env}
variable {d : Option Tmp} {ty : TypeId} {pos : String} {aft : Array Edge} {gd : Option (Nat × Bool)}

theorem PO.shr {x y : Operand} {k yk : IntKind} {a b : Int} {t u : TypeId} (hx : rd n e x = .int k a) (hy : rd n e y = .int yk b) (h0 : 0 ≤ b) (h1 : b ≤ k.bits) :
   PO P n e ⟨d, .binOp .shr t x y u, ty, pos, aft, gd⟩ (.int k (a / 2 ^ b.toNat)) := fun w => by
 simp [execOp, hx, hy, eqGuard, binOp_shr, shift_shr k yk a b h0 h1]
end
section
variable {P : Program} {ops : Array Oper} {Q : Exit → Act → World → Prop} {n : Nat} {w0 : World} {D : List Nat} {L M : List Res} {e : Env} {z fuel : Nat} {listed : Array Bool}

theorem kG (i : Nat) {oi : Oper} {v : Value} {j : Nat} {b : Bool} {t : Tmp} (hi : ops[i]? = some oi) (hs : Region.noSelect ops = true) (hQ : NP Q) (hz : lateB ops z i = true) (hf : Region.free .any ops listed i = true) (hr : (Region.ready .any ops listed).contains i = true)
   (hg : oi.guard = some (j, b)) (hj : (ops[j]?).bind (·.dst) = some t) (ht : Nat.blt t n = true) (hv : e t = .bool b) (hy : LO P n w0 D M e oi v) (h : JA P ops Q n w0 D M z fuel (listed.setIfInBounds i true) L (updO e oi.dst v)) :
   JA P ops Q n w0 D M z (fuel + 1) listed L e := fun w hw hq => by
 have hlt : t < n := (Nat.blt_eq (x := t) (y := n)) ▸ ht
 have hyy : yielded ops (act n e).tmps j = some b := by simp [yielded, hj, act, hlt, hv]
 exact anyC.first hi hs hQ hz fuel listed (act n e) w (Region.free_spec hi hf) (by simpa using hr) hq (.inl ⟨by simp [Region.wanted, hg, hyy], fun w' hw' => by rw [act_eval']; exact hy w' hw'⟩) (by rw [act_put]; exact h w hw hq)

theorem jq (i : Nat) {oi : Oper} {v : Value} {j : Nat} {b : Bool} {t : Tmp} (hi : ops[i]? = some oi) (hs : Region.noSelect ops = true) (hQ : NP Q) (hf : Region.free .any ops listed i = true) (hr : (Region.ready .any ops listed).contains i = true)
   (hg : oi.guard = some (j, b)) (hj : (ops[j]?).bind (·.dst) = some t) (ht : Nat.blt t n = true) (hv : e t = .bool b) (hy : PO P n e oi v) (h : JA P ops Q n w0 D M z fuel (listed.setIfInBounds i true) L (updO e oi.dst v)) :
   JA P ops Q n w0 D M z (fuel + 1) listed L e := fun w hw hq => by
 have hlt : t < n := (Nat.blt_eq (x := t) (y := n)) ▸ ht
 have hyy : yielded ops (act n e).tmps j = some b := by simp [yielded, hj, act, hlt, hv]
 exact anyC.firstP hi hs hQ fuel listed (act n e) w (Region.free_spec hi hf) (by simpa using hr) (.inl ⟨by simp [Region.wanted, hg, hyy], fun w' _ => by rw [act_eval']; exact hy w'⟩) (by rw [act_put]; exact h w hw hq)

end
theorem sees_nil {w : World} (k : Nat) : Sees w (.slice none 0 0) k 0 [] := ⟨by simp, .inl ⟨rfl, rfl⟩⟩
end Go.Proofs.YthlfmbbaomdciaaGreatDoor
namespace Go.Proofs.YthlfmbbaomdciaaGreatDoor
open Go Go.RowKit Go.ChangeShapes Go.WideShapes Go.ChangeAt
theorem list_of {α : Type} (d : α) {p : Nat → α → Prop} : ∀ n, (∀ i, i < n → ∃ s, p i s) → ∃ l : List α, l.length = n ∧ ∀ i, i < n → p i (l.getD i d)
 | 0, _ => ⟨[], rfl, fun i hi => absurd hi (Nat.not_lt_zero i)⟩
 | n + 1, h => by
   obtain ⟨l, hl, hp⟩ := list_of d n (fun i hi => h i (by omega))
   obtain ⟨s, hs⟩ := h n (by omega)
   refine ⟨l ++ [s], by simp [hl], fun i hi => ?_⟩
   by_cases hin : i < n
   · have : (l ++ [s]).getD i d = l.getD i d := by
       rw [List.getD_eq_getElem?_getD, List.getD_eq_getElem?_getD, List.getElem?_append_left (by omega)]
     rw [this]; exact hp i hin
   · have hi' : i = l.length := by omega
     have : (l ++ [s]).getD i d = s := by subst hi'; simp
     rw [this]
     have : i = n := by omega
     subst this
     exact hs

/-- What is known of the addresses of slices that come in. -/
theorem spot_of {P : Program} {w : World} {t e : TypeId} {v : Value} {b0 : Nat} {r : Reach} (ht : P.underlying t = some (.slice e)) (h : Cell.okWide P w r b0 t v) : ∀ a n c, v = .slice (some a) n c → a.spot = none ∧ a.block < w.heap.size := fun a n c hv => by
 subst hv
 have h1 : Cell.ok P w r b0 t (.slice (some a) n c) := by
   unfold Cell.okWide at h
   rw [ht] at h
   exact h
 unfold Cell.ok at h1
 rw [ht] at h1
 obtain ⟨_, _, _, hs, row, cells, hsh, _⟩ := h1
 refine ⟨hs, ?_⟩
 unfold World.shape? at hsh
 cases hg : w.heap[a.block]? with
 | none => rw [hg] at hsh; cases hsh
 | some o => exact (Array.getElem?_eq_some_iff.1 hg).1
end Go.Proofs.YthlfmbbaomdciaaGreatDoor
set_option maxHeartbeats 4000000
set_option maxRecDepth 4000
namespace Go.Proofs.YthlfmbbaomdciaaGreatDoor
open Go Go.RowKit
@[reducible] def cb (b : Nat) (a : Option Addr) (c : Nat) (l : Str) (p : Nat) (s : Int) : Res := bk b 196 [.slice a l.length c, .int .i64 ((p : Nat) : Int), .int .i64 s]
/-- The bytes that a cursor goes over can be read, and none of these resources holds them. -/
def seesC (w : World) (a : Option Addr) (c : Nat) (l : Str) (A : List Res) : Prop := Sees w (.slice a l.length c) 1 l.length (l.map encB) ∧ ∀ i, (Value.slice a l.length c).ownBlock = some i → i ∉ idsOf A
theorem atB {l : Str} {i : Nat} (h : i < l.length) : (l.map encB)[i * 1]? = some (.int .u8 (((l.getD i 0).toNat : Nat) : Int)) := by simp [h, encB]
theorem and_bnd (x m : Int) (h0 : 0 ≤ m) (h1 : m < 9223372036854775808) : 0 ≤ bits .and .i64 x m ∧ bits .and .i64 x m ≤ m := by
 have hm : (BitVec.ofInt 64 m).toNat = m.toNat := by
   rw [BitVec.toNat_ofInt]
   congr 1
   omega
 have hle : ((BitVec.ofInt 64 x) &&& (BitVec.ofInt 64 m)).toNat ≤ m.toNat := by
   rw [BitVec.toNat_and, hm]
   exact Nat.and_le_right
 have hw : bits .and .i64 x m = ((((BitVec.ofInt 64 x) &&& (BitVec.ofInt 64 m)).toNat : Nat) : Int) := by
   unfold bits
   show IntKind.i64.wrap ((((BitVec.ofInt 64 x) &&& (BitVec.ofInt 64 m)).toNat : Nat) : Int) = _
   exact wr (by omega)
 rw [hw]
 omega
theorem mkB_flat (n : Nat) : (List.replicate n [Value.int .u8 0]).flatten = (List.replicate n (0 : UInt8)).map encB := by
 induction n with
 | zero => rfl
 | succ n ih => rw [List.replicate_succ, List.flatten_cons, ih, List.replicate_succ]; rfl
attribute [local irreducible] JL JC JQ JO LO PO JA JX Ct

theorem D_byte (qb : Nat) (qa : Option Addr) (qc : Nat) (ql : Str) (qp : Nat) (qs : Int) (hql : ql.length ≤ 1048577) (hqp : qp ≤ ql.length)  :
   Ct Tryz.prog 193 [.pointer (some ⟨qb, 0, none⟩)] [cb qb qa qc ql qp qs] (fun w => seesC w qa qc ql [cb qb qa qc ql qp qs]) (fun v A' => ∃ qp' qs' r0, qp' ≤ ql.length ∧ (r0 ≤ 255) ∧ v = .int .i64 ((r0 : Nat) : Int) ∧ A' = [cb qb qa qc ql qp' qs']) := by
 refine Ct.intro Tryz.func193 rfl Tryz.ntmps193 (lb rfl) fun w0 hpre => ?_
 have hs_qa : Sees w0 _ _ _ _ := hpre.1
 refine go ?_
 refine jK (PO.mulW rfl rfl) <| jK (PO.addW rfl rfl) ?_
 refine go ?_
 refine jD 0 [.slice qa ql.length qc, nv qp, iv (IntKind.i64.wrap ((IntKind.i64.wrap (qs * 6364136223846793005)) + 1442695040888963407))] ?_
 refine go ?_
 refine jH [0] 12 ?_
 refine go ?_
 refine jd 4 rfl (PO.shr rfl rfl (by decide) (by decide)) ?_
 refine go ?_
 refine jd 9 rfl (PO.shr rfl rfl (by decide) (by decide)) <| jd 10 rfl (PO.bits (by simp) rfl rfl) <| jd 11 rfl (PO.bits (by simp) rfl rfl) ?_
 refine go ?_
 refine jH [0] 1000 ?_
 refine go ?_
 by_cases h_1 : ((qp : Nat) : Int) < ((ql.length : Nat) : Int)
 · have hu8 := UInt8.toNat_lt (ql.getD qp 0)
   refine go ?_
   refine jH [0] 14 ?_
   refine go ?_
   obtain ⟨hr_2, hr_2b, -⟩ := sees_some hs_qa (by omega)
   refine go ?_
   refine jk 10 rfl (jY (v := .int .u8 (((ql.getD qp 0).toNat : Nat) : Int)) hs_qa (hpre.2) rfl Tryz.isAgg5 (atB (by omega))) <| jd 11 rfl (PO.convI (c := (((ql.getD qp 0).toNat : Nat) : Int)) kU kW rfl (wr (by omega))) <| jd 12 rfl (PO.addW rfl rfl) <| jd 13 rfl (PO.bits (by simp) rfl rfl) ?_
   refine go ?_
   refine jD 0 [.slice qa ql.length qc, iv ((qp + 1 : Nat) : Int), iv (IntKind.i64.wrap ((IntKind.i64.wrap (qs * 6364136223846793005)) + 1442695040888963407))] ?_
   refine go ?_
   refine jE (.inl rfl) rfl (jC (v := iv (Go.bits .and .i64 (IntKind.i64.wrap ((Go.bits .and .i64 (Go.bits .xor .i64 ((IntKind.i64.wrap ((IntKind.i64.wrap (qs * 6364136223846793005)) + 1442695040888963407)) / 2 ^ (33 : Int).toNat) ((IntKind.i64.wrap ((IntKind.i64.wrap (qs * 6364136223846793005)) + 1442695040888963407)) / 2 ^ (45 : Int).toNat)) 255) + (((ql.getD qp 0).toNat : Nat) : Int))) 255)) rfl) (List.Sublist.refl _) ?_
   have hbb := and_bnd (IntKind.i64.wrap ((Go.bits .and .i64 (Go.bits .xor .i64 ((IntKind.i64.wrap ((IntKind.i64.wrap (qs * 6364136223846793005)) + 1442695040888963407)) / 2 ^ (33 : Int).toNat) ((IntKind.i64.wrap ((IntKind.i64.wrap (qs * 6364136223846793005)) + 1442695040888963407)) / 2 ^ (45 : Int).toNat)) 255) + (((ql.getD qp 0).toNat : Nat) : Int))) 255 (by decide) (by decide)
   obtain ⟨r0, hr0⟩ : ∃ r0 : Nat, Go.bits .and .i64 (IntKind.i64.wrap ((Go.bits .and .i64 (Go.bits .xor .i64 ((IntKind.i64.wrap ((IntKind.i64.wrap (qs * 6364136223846793005)) + 1442695040888963407)) / 2 ^ (33 : Int).toNat) ((IntKind.i64.wrap ((IntKind.i64.wrap (qs * 6364136223846793005)) + 1442695040888963407)) / 2 ^ (45 : Int).toNat)) 255) + (((ql.getD qp 0).toNat : Nat) : Int))) 255 = ((r0 : Nat) : Int) := ⟨(Go.bits .and .i64 (IntKind.i64.wrap ((Go.bits .and .i64 (Go.bits .xor .i64 ((IntKind.i64.wrap ((IntKind.i64.wrap (qs * 6364136223846793005)) + 1442695040888963407)) / 2 ^ (33 : Int).toNat) ((IntKind.i64.wrap ((IntKind.i64.wrap (qs * 6364136223846793005)) + 1442695040888963407)) / 2 ^ (45 : Int).toNat)) 255) + (((ql.getD qp 0).toNat : Nat) : Int))) 255).toNat, by omega⟩
   rw [hr0] at hbb
   exact ⟨(qp + 1), (IntKind.i64.wrap ((IntKind.i64.wrap (qs * 6364136223846793005)) + 1442695040888963407)), r0, by omega, by omega, congrArg (Value.int .i64) hr0, rfl⟩
 refine go ?_
 refine jE (.inl rfl) rfl (jC (v := iv (Go.bits .and .i64 (Go.bits .xor .i64 ((IntKind.i64.wrap ((IntKind.i64.wrap (qs * 6364136223846793005)) + 1442695040888963407)) / 2 ^ (33 : Int).toNat) ((IntKind.i64.wrap ((IntKind.i64.wrap (qs * 6364136223846793005)) + 1442695040888963407)) / 2 ^ (45 : Int).toNat)) 255)) rfl) (List.Sublist.refl _) ?_
 have hbb := and_bnd (Go.bits .xor .i64 ((IntKind.i64.wrap ((IntKind.i64.wrap (qs * 6364136223846793005)) + 1442695040888963407)) / 2 ^ (33 : Int).toNat) ((IntKind.i64.wrap ((IntKind.i64.wrap (qs * 6364136223846793005)) + 1442695040888963407)) / 2 ^ (45 : Int).toNat)) 255 (by decide) (by decide)
 obtain ⟨r0, hr0⟩ : ∃ r0 : Nat, Go.bits .and .i64 (Go.bits .xor .i64 ((IntKind.i64.wrap ((IntKind.i64.wrap (qs * 6364136223846793005)) + 1442695040888963407)) / 2 ^ (33 : Int).toNat) ((IntKind.i64.wrap ((IntKind.i64.wrap (qs * 6364136223846793005)) + 1442695040888963407)) / 2 ^ (45 : Int).toNat)) 255 = ((r0 : Nat) : Int) := ⟨(Go.bits .and .i64 (Go.bits .xor .i64 ((IntKind.i64.wrap ((IntKind.i64.wrap (qs * 6364136223846793005)) + 1442695040888963407)) / 2 ^ (33 : Int).toNat) ((IntKind.i64.wrap ((IntKind.i64.wrap (qs * 6364136223846793005)) + 1442695040888963407)) / 2 ^ (45 : Int).toNat)) 255).toNat, by omega⟩
 rw [hr0] at hbb
 exact ⟨qp, (IntKind.i64.wrap ((IntKind.i64.wrap (qs * 6364136223846793005)) + 1442695040888963407)), r0, by omega, by omega, congrArg (Value.int .i64) hr0, rfl⟩

theorem D_below (qb : Nat) (qa : Option Addr) (qc : Nat) (ql : Str) (qp : Nat) (qs : Int) (hql : ql.length ≤ 1048577) (hqp : qp ≤ ql.length) (k : Int) (hk : -9223372036854775808 ≤ k ∧ k ≤ 9223372036854775807) :
   Ct Tryz.prog 102 [.pointer (some ⟨qb, 0, none⟩), .int .i64 k] [cb qb qa qc ql qp qs] (fun w => seesC w qa qc ql [cb qb qa qc ql qp qs]) (fun v A' => ∃ qp' qs' r0, qp' ≤ ql.length ∧ (((r0 : Nat) : Int) < k ∨ r0 = 0) ∧ v = .int .i64 ((r0 : Nat) : Int) ∧ A' = [cb qb qa qc ql qp' qs']) := by
 refine Ct.intro Tryz.func102 rfl Tryz.ntmps102 (lb rfl) fun w0 hpre => ?_
 have hs_qa : Sees w0 _ _ _ _ := hpre.1
 refine go ?_
 by_cases h_1 : k ≤ 0
 · refine go ?_
   refine jE (.inl rfl) rfl (jC (v := iv 0) rfl) (List.Sublist.refl _) ?_
   exact ⟨qp, qs, 0, (by omega), (.inr rfl), rfl, rfl⟩
 obtain ⟨kk, hkk⟩ : ∃ kk : Nat, k = ((kk : Nat) : Int) := ⟨k.toNat, by omega⟩
 first | refine kA 1 (v := nv kk) (congrArg (Value.int .i64) hkk) ?_ | refine jv 1 (v := nv kk) (congrArg (Value.int .i64) hkk) ?_ | refine kB 1 (v := nv kk) (congrArg (Value.int .i64) hkk) ?_ | refine kC 1 (v := nv kk) (congrArg (Value.int .i64) hkk) ?_
 refine go ?_
 by_cases h_2 : ((kk : Nat) : Int) ≤ 256
 · refine go ?_
   refine jA [0] (D_byte qb qa qc ql qp qs (by omega) (by omega)) (hpre := fun w hw => ⟨hw.seeOut_ hs_qa (hpre.2), hw.apart hs_qa (hpre.2) (by simp)⟩) ?_
   rintro _ _ ⟨qp_3, qs_4, n_6, fq_5, f_7, rfl, rfl⟩
   refine go ?_
   refine jK (PO.remN (c := ((n_6 % kk : Nat) : Int)) rfl rfl (by omega) (by omega) (by omega)) ?_
   refine go ?_
   refine jE (.inl rfl) rfl (jC (v := iv ((n_6 % kk : Nat) : Int)) rfl) (List.Sublist.refl _) ?_
   exact ⟨qp_3, qs_4, (n_6 % kk), (by omega), (.inl (by have hm_ := Nat.mod_lt (n_6) (show 0 < kk by omega); omega)), rfl, rfl⟩
 refine go ?_
 refine jA [0] (D_byte qb qa qc ql qp qs (by omega) (by omega)) (hpre := fun w hw => ⟨hw.seeOut_ hs_qa (hpre.2), hw.apart hs_qa (hpre.2) (by simp)⟩) ?_
 rintro _ _ ⟨qp_9, qs_10, n_12, fq_11, f_13, rfl, rfl⟩
 refine go ?_
 refine jA [0] (D_byte qb qa qc ql qp_9 qs_10 (by omega) (by omega)) (hpre := fun w hw => ⟨hw.seeOut_ hs_qa (hpre.2), hw.apart hs_qa (hpre.2) (by simp)⟩) ?_
 rintro _ _ ⟨qp_15, qs_16, n_18, fq_17, f_19, rfl, rfl⟩
 refine go ?_
 refine jA [0] (D_byte qb qa qc ql qp_15 qs_16 (by omega) (by omega)) (hpre := fun w hw => ⟨hw.seeOut_ hs_qa (hpre.2), hw.apart hs_qa (hpre.2) (by simp)⟩) ?_
 rintro _ _ ⟨qp_21, qs_22, n_24, fq_23, f_25, rfl, rfl⟩
 refine go ?_
 refine jA [0] (D_byte qb qa qc ql qp_21 qs_22 (by omega) (by omega)) (hpre := fun w hw => ⟨hw.seeOut_ hs_qa (hpre.2), hw.apart hs_qa (hpre.2) (by simp)⟩) ?_
 rintro _ _ ⟨qp_27, qs_28, n_30, fq_29, f_31, rfl, rfl⟩
 refine go ?_
 refine jK (PO.remN (c := ((((((n_12 * 16777216) + (n_18 * 65536)) + (n_24 * 256)) + n_30) % kk : Nat) : Int)) rfl rfl (by omega) (by omega) (by omega)) ?_
 refine go ?_
 refine jE (.inl rfl) rfl (jC (v := iv ((((((n_12 * 16777216) + (n_18 * 65536)) + (n_24 * 256)) + n_30) % kk : Nat) : Int)) rfl) (List.Sublist.refl _) ?_
 exact ⟨qp_27, qs_28, (((((n_12 * 16777216) + (n_18 * 65536)) + (n_24 * 256)) + n_30) % kk), (by omega), (.inl (by have hm_ := Nat.mod_lt (((((n_12 * 16777216) + (n_18 * 65536)) + (n_24 * 256)) + n_30)) (show 0 < kk by omega); omega)), rfl, rfl⟩

theorem D_once (qb : Nat) (qa : Option Addr) (qc : Nat) (ql : Str) (qp : Nat) (qs : Int) (hql : ql.length ≤ 1048577) (hqp : qp ≤ ql.length) (k : Int) (hk : -9223372036854775808 ≤ k ∧ k ≤ 9223372036854775807) :
   Ct Tryz.prog 116 [.pointer (some ⟨qb, 0, none⟩), .int .i64 k] [cb qb qa qc ql qp qs] (fun w => seesC w qa qc ql [cb qb qa qc ql qp qs]) (fun v A' => ∃ qp' qs' r0, qp' ≤ ql.length ∧ v = .bool r0 ∧ A' = [cb qb qa qc ql qp' qs']) := by
 refine Ct.intro Tryz.func116 rfl Tryz.ntmps116 (lb rfl) fun w0 hpre => ?_
 have hs_qa : Sees w0 _ _ _ _ := hpre.1
 refine go ?_
 refine jA [0] (D_below qb qa qc ql qp qs (by omega) (by omega) k (by omega)) (hpre := fun w hw => ⟨hw.seeOut_ hs_qa (hpre.2), hw.apart hs_qa (hpre.2) (by simp)⟩) ?_
 rintro _ _ ⟨qp_1, qs_2, n_4, fq_3, f_5, rfl, rfl⟩
 refine go ?_
 refine jE (.inl rfl) rfl (jC (v := .bool (decide (((n_4 : Nat) : Int) = 0))) rfl) (List.Sublist.refl _) ?_
 exact ⟨qp_1, qs_2, (decide (((n_4 : Nat) : Int) = 0)), (by omega), rfl, rfl⟩

theorem D_pick (qb : Nat) (qa : Option Addr) (qc : Nat) (ql : Str) (qp : Nat) (qs : Int) (la : Option Addr) (lc : Nat) (l : List Str) (hql : ql.length ≤ 1048577) (hqp : qp ≤ ql.length)  (hl0 : 0 < l.length) (hl1 : l.length ≤ 1000) :
   Ct Tryz.prog 126 [.pointer (some ⟨qb, 0, none⟩), .slice la l.length lc] [cb qb qa qc ql qp qs, rS la lc l] (fun w => seesC w qa qc ql [cb qb qa qc ql qp qs, rS la lc l]) (fun v A' => ∃ qp' qs' r0, qp' ≤ ql.length ∧ (r0 ∈ l) ∧ v = str r0 ∧ A' = [cb qb qa qc ql qp' qs']) := by
 refine Ct.intro Tryz.func126 rfl Tryz.ntmps126 (lb rfl) fun w0 hpre => ?_
 have hs_qa : Sees w0 _ _ _ _ := hpre.1
 refine go ?_
 refine jA [0] (D_below qb qa qc ql qp qs (by omega) (by omega) ((l.length : Nat) : Int) (by omega)) (hpre := fun w hw => ⟨hw.seeOut_ hs_qa (hpre.2), hw.apart hs_qa (hpre.2) (by simp)⟩) ?_
 rintro _ _ ⟨qp_1, qs_2, n_4, fq_3, f_5, rfl, rfl⟩
 refine jo fun hst => ?_
 obtain ⟨hr_7, hr_7b, -⟩ := row_some 1 rfl (by omega) hst
 refine go ?_
 refine jU (jr 1 (v := str (l.getD n_4 [])) rfl rfl kJ (atS (by omega))) ?_
 refine go ?_
 exact jJ [0] ⟨qp_1, qs_2, (l.getD n_4 []), (by omega), (getD_mem (by omega)), rfl, rfl⟩

theorem D_pickInt (qb : Nat) (qa : Option Addr) (qc : Nat) (ql : Str) (qp : Nat) (qs : Int) (la : Option Addr) (lc : Nat) (l : List Int) (hql : ql.length ≤ 1048577) (hqp : qp ≤ ql.length)  (hl0 : 0 < l.length) (hl1 : l.length ≤ 1000) :
   Ct Tryz.prog 155 [.pointer (some ⟨qb, 0, none⟩), .slice la l.length lc] [cb qb qa qc ql qp qs, rI la lc l] (fun w => seesC w qa qc ql [cb qb qa qc ql qp qs, rI la lc l]) (fun v A' => ∃ qp' qs' r0, qp' ≤ ql.length ∧ (r0 ∈ l) ∧ v = .int .i64 r0 ∧ A' = [cb qb qa qc ql qp' qs']) := by
 refine Ct.intro Tryz.func155 rfl Tryz.ntmps155 (lb rfl) fun w0 hpre => ?_
 have hs_qa : Sees w0 _ _ _ _ := hpre.1
 refine go ?_
 refine jA [0] (D_below qb qa qc ql qp qs (by omega) (by omega) ((l.length : Nat) : Int) (by omega)) (hpre := fun w hw => ⟨hw.seeOut_ hs_qa (hpre.2), hw.apart hs_qa (hpre.2) (by simp)⟩) ?_
 rintro _ _ ⟨qp_1, qs_2, n_4, fq_3, f_5, rfl, rfl⟩
 refine jo fun hst => ?_
 obtain ⟨hr_7, hr_7b, -⟩ := row_some 1 rfl (by omega) hst
 refine go ?_
 refine jU (jr 1 (v := iv (l.getD n_4 0)) rfl rfl kR (atI (by omega))) ?_
 refine go ?_
 exact jJ [0] ⟨qp_1, qs_2, (l.getD n_4 0), (by omega), (getD_mem (by omega)), rfl, rfl⟩

theorem D_new (pa : Option Addr) (pc : Nat) (p : Str) (hp : p.length ≤ 1048577)  :
   Ct Tryz.prog 101 [.slice pa p.length pc] [] (fun w => Sees w (.slice pa p.length pc) 1 p.length (p.map encB)) (fun v A' => ∃ r0 r0s, True ∧ v = .pointer (some ⟨r0, 0, none⟩) ∧ A' = [cb r0 pa pc p 0 r0s]) := by
 refine Ct.intro Tryz.func101 rfl Tryz.ntmps101 (lb rfl) fun w0 hpre => ?_
 have hs_pa : Sees w0 _ _ _ _ := hpre
 refine go ?_
 refine jL (fun k_ e_ L_ => ∃ i_ : Nat, ∃ s_ : Int, (i_ ≤ p.length) ∧ (0 ≤ s_ ∧ s_ ≤ 1073741823) ∧ EL e_ [(0, .slice pa p.length pc), (2, .pointer none), (3, iv s_), (4, nv i_)] ∧ L_ = [] ∧ k_ = 1048577 - i_) _ ⟨0, ((94701 + p.length : Nat) : Int), (by omega), (by omega), EL.go, rfl, rfl⟩ ?_
 rintro _ _ _ ⟨i_, s_, hi, hs, ⟨_, rfl⟩, rfl, rfl⟩
 refine go ?_
 by_cases h_1 : ((i_ : Nat) : Int) < ((p.length : Nat) : Int)
 · have hu8 := UInt8.toNat_lt (p.getD i_ 0)
   refine go ?_
   by_cases h_2 : ((i_ : Nat) : Int) < 4000
   · refine go ?_
     refine jK (PO.mul (c := s_ * 131) rfl rfl (wr (by omega))) ?_
     refine go ?_
     obtain ⟨hr_3, hr_3b, -⟩ := sees_some hs_pa (by omega)
     refine go ?_
     refine jU (jY (v := .int .u8 (((p.getD i_ 0).toNat : Nat) : Int)) hs_pa nM rfl Tryz.isAgg5 (atB (by omega))) <| jK (PO.convI (c := (((p.getD i_ 0).toNat : Nat) : Int)) kU kW rfl (wr (by omega))) ?_
     refine go ?_
     refine jK (PO.bits (by simp) rfl rfl) ?_
     refine go ?_
     exact jP [] ⟨(i_ + 1), (Go.bits .and .i64 (((s_ * 131) + (((p.getD i_ 0).toNat : Nat) : Int)) + 7) 1073741823), (by omega), (and_bnd _ _ (by decide) (by decide)), EL.go, rfl, rfl⟩
   refine go ?_
   refine jK (je (ps := [(0, .slice pa p.length pc), (2, iv s_)]) (cs := [.slice pa p.length pc, iv 0, iv s_]) rfl (by kernel_rfl)) ?_
   refine jM [.slice pa p.length pc, iv 0, iv s_] fun b_4 => ?_
   refine go ?_
   refine jE (.inl rfl) rfl (jC (v := .pointer (some ⟨b_4, 0, none⟩)) rfl) (List.Sublist.refl _) ?_
   exact ⟨b_4, s_, trivial, rfl, rfl⟩
 refine go ?_
 refine jK (je (ps := [(0, .slice pa p.length pc), (2, iv s_)]) (cs := [.slice pa p.length pc, iv 0, iv s_]) rfl (by kernel_rfl)) ?_
 refine jM [.slice pa p.length pc, iv 0, iv s_] fun b_5 => ?_
 refine go ?_
 refine jE (.inl rfl) rfl (jC (v := .pointer (some ⟨b_5, 0, none⟩)) rfl) (List.Sublist.refl _) ?_
 exact ⟨b_5, s_, trivial, rfl, rfl⟩

theorem D_long (b : UInt8) (n : Int) (hn : -9223372036854775808 ≤ n ∧ n ≤ 9223372036854775807) (hn0 : 0 ≤ n ∧ n ≤ 30000) :
   Ct Tryz.prog 205 [.int .i64 n, .int .u8 ((b.toNat : Nat) : Int)] [] (fun _ => True) (fun v A' => ∃ r0, (r0.length = n.toNat) ∧ v = str r0 ∧ A' = []) := by
 obtain ⟨nn, hnn⟩ : ∃ nn : Nat, n = ((nn : Nat) : Int) := ⟨n.toNat, by omega⟩
 refine Ct.intro Tryz.func205 rfl Tryz.ntmps205 (lb rfl) fun w0 hpre => ?_
 first | refine kA 0 (v := nv nn) (congrArg (Value.int .i64) hnn) ?_ | refine jv 0 (v := nv nn) (congrArg (Value.int .i64) hnn) ?_ | refine kB 0 (v := nv nn) (congrArg (Value.int .i64) hnn) ?_ | refine kC 0 (v := nv nn) (congrArg (Value.int .i64) hnn) ?_
 refine go ?_
 refine jF rfl (JO.makeSlice (z := .int .u8 0) (zc := [.int .u8 0]) (m := nn) kN Tryz.typeInfo5 rfl rfl rfl rfl rfl (by unfold maxLen; omega) (by show 1 * _ ≤ _; omega)) ?_
 rintro _ _ ⟨a_1, rfl, rfl⟩
 rw [mkB_flat]
 refine go ?_
 refine jL (fun k_ e_ L_ => ∃ i_ : Nat, ∃ bba : Option Addr, ∃ bbc : Nat, ∃ bbn : Nat, ∃ bb : Str, (bb.length = bbn) ∧ (i_ ≤ nn ∧ bbn = nn) ∧ EL e_ [(0, nv nn), (1, .int .u8 ((b.toNat : Nat) : Int)), (4, str []), (5, .slice bba bbn bbc), (6, nv i_)] ∧ L_ = [Res.row (.slice bba bbn bbc) 5 1 bbn (bb.map encB)] ∧ k_ = 30001 - i_) _ ⟨0, a_1, nn, nn, (List.replicate nn (0 : UInt8)), (by first | rfl | omega | (simp only [List.length_append, List.length_cons, List.length_nil, List.length_set]; omega) | simp), (⟨by omega, rfl⟩), EL.go, rfl, rfl⟩ ?_
 rintro _ _ _ ⟨i_, bba, bbc, bbn, bb, hbbn, hi, ⟨_, rfl⟩, rfl, rfl⟩
 refine go ?_
 by_cases h_2 : ((i_ : Nat) : Int) < ((nn : Nat) : Int)
 · refine go ?_
   refine jo fun hst => ?_
   obtain ⟨hr_3, hr_3b, -⟩ := row_some 0 rfl (by omega) hst
   refine go ?_
   refine jF rfl (jx 0 (vs := [.int .u8 ((b.toNat : Nat) : Int)]) (cs' := (bb.set i_ (b)).map encB) rfl rfl rfl rfl kg rfl rfl (by decide) (by rw [List.length_map]; omega) (setB (by omega))) ?_
   rintro _ _ rfl
   refine go ?_
   exact jP [0] ⟨(i_ + 1), bba, bbc, bbn, (bb.set i_ (b)), (by first | rfl | omega | (simp only [List.length_append, List.length_cons, List.length_nil, List.length_set]; omega) | simp), (by omega), EL.go, rfl, rfl⟩
 refine go ?_
 refine jU (LO.toStr 0 bb rfl kN kU kO rfl rfl) ?_
 refine go ?_
 exact jJ [] ⟨bb, (by first | omega | (simp only [LE]; omega)), rfl, rfl⟩

theorem D_text (qb : Nat) (qa : Option Addr) (qc : Nat) (ql : Str) (qp : Nat) (qs : Int) (hql : ql.length ≤ 1048577) (hqp : qp ≤ ql.length) (k : Int) (hk : -9223372036854775808 ≤ k ∧ k ≤ 9223372036854775807) :
   Ct Tryz.prog 252 [.pointer (some ⟨qb, 0, none⟩), .int .i64 k] [cb qb qa qc ql qp qs] (fun w => seesC w qa qc ql [cb qb qa qc ql qp qs]) (fun v A' => ∃ qp' qs' r0, qp' ≤ ql.length ∧ (r0.length ≤ 5000 ∧ (((r0.length : Nat) : Int) ≤ k ∨ r0.length = 0)) ∧ v = str r0 ∧ A' = [cb qb qa qc ql qp' qs']) := by
 refine Ct.intro Tryz.func252 rfl Tryz.ntmps252 (lb rfl) fun w0 hpre => ?_
 have hs_qa : Sees w0 _ _ _ _ := hpre.1
 refine go ?_
 by_cases h_1 : 5000 < k
 · refine go ?_
   refine jF rfl (jR (ps := []) (cur := #[]) kN kg kj rfl (by kernel_rfl) (by decide) (by decide)) ?_
   rintro _ _ ⟨a_2, rfl, rfl⟩
   refine go ?_
   refine jL (fun k_ e_ L_ => ∃ i_ : Nat, ∃ p_q : Nat, ∃ s_q : Int, ∃ o_a : Option Addr, ∃ o_c : Nat, ∃ o_n : Nat, ∃ o_ : Str, (p_q ≤ ql.length) ∧ (o_.length = o_n) ∧ (i_ ≤ 5000 ∧ (((i_ : Nat) : Int) ≤ k ∨ i_ = 0)) ∧ (o_.length = i_) ∧ EL e_ [(0, .pointer (some ⟨qb, 0, none⟩)), (1, iv 5000), (4, str []), (5, .slice o_a o_n o_c), (6, nv i_)] ∧ L_ = [Res.row (.slice o_a o_n o_c) 5 1 o_n (o_.map encB), cb qb qa qc ql p_q s_q] ∧ k_ = 5001 - i_) _ ⟨0, qp, qs, a_2, 0, 0, ([] : List UInt8), (by omega), (by first | rfl | omega | (simp only [List.length_append, List.length_cons, List.length_nil, List.length_set]; omega) | simp), (by omega), (by rfl), EL.go, rfl, rfl⟩ ?_
   rintro _ _ _ ⟨i_, p_q, s_q, o_a, o_c, o_n, o_, hpq_, ho_n, hi, ho, ⟨_, rfl⟩, rfl, rfl⟩
   refine go ?_
   by_cases h_3 : ((i_ : Nat) : Int) < 5000
   · refine go ?_
     refine jA [1] (D_byte qb qa qc ql p_q s_q (by omega) (by omega)) (hpre := fun w hw => ⟨hw.seeOut_ hs_qa (hpre.2), hw.apart hs_qa (hpre.2) (by simp)⟩) ?_
     rintro _ _ ⟨qp_4, qs_5, n_7, fq_6, f_8, rfl, rfl⟩
     refine jK (PO.convI (c := (((UInt8.ofNat n_7).toNat : Nat) : Int)) kW kU rfl (wr8u (c := UInt8.ofNat n_7) (by omega) (by first | rw [Int.toNat_natCast] | rfl | (congr 1; omega)))) ?_
     refine jF rfl (jR (ps := [(0, .int .u8 (((UInt8.ofNat n_7).toNat : Nat) : Int))]) (cur := #[.int .u8 (((UInt8.ofNat n_7).toNat : Nat) : Int)]) kN kg kj rfl (by kernel_rfl) (by decide) (by decide)) ?_
     rintro _ _ ⟨a_10, rfl, rfl⟩
     refine jF rfl (jX 2 (q := 1) (news := ([UInt8.ofNat n_7] : List UInt8).map encB) (n' := (o_ ++ ([UInt8.ofNat n_7] : List UInt8)).length) (cs' := (o_ ++ ([UInt8.ofNat n_7] : List UInt8)).map encB) rfl kN kN Tryz.typeInfo5 rfl (by' := 1) rfl rfl rfl rfl rfl (fun w hw => Src.sees (hw.see (i := 0) rfl) (oneB _)) (by (try simp only [LE]); omega) (by (try simp only [LE]); omega) (by simp only [List.length_append, List.length_take, List.length_drop, List.length_cons, List.length_nil] <;> first | rfl | omega) (by simp only [List.map_append])) ?_
     rintro _ _ ⟨a_11, c_12, rfl, rfl⟩
     refine go ?_
     exact jP [2, 1] ⟨(i_ + 1), qp_4, qs_5, a_11, c_12, ((o_ ++ ([UInt8.ofNat n_7] : List UInt8)).length), (o_ ++ ([UInt8.ofNat n_7] : List UInt8)), (by omega), (by first | rfl | omega | (simp only [List.length_append, List.length_cons, List.length_nil, List.length_set]; omega) | simp), (by omega), (by first | omega | (simp only [List.length_append, List.length_cons, List.length_nil, List.length_set]; omega)), EL.go, rfl, rfl⟩
   refine go ?_
   refine jU (LO.toStr 0 o_ rfl kN kU kO rfl rfl) ?_
   refine go ?_
   exact jJ [1] ⟨p_q, s_q, o_, (by omega), (by first | omega | (simp only [LE]; omega)), rfl, rfl⟩
 refine go ?_
 refine jF rfl (jR (ps := []) (cur := #[]) kN kg kj rfl (by kernel_rfl) (by decide) (by decide)) ?_
 rintro _ _ ⟨a_13, rfl, rfl⟩
 refine go ?_
 refine jL (fun k_ e_ L_ => ∃ i_ : Nat, ∃ p_q : Nat, ∃ s_q : Int, ∃ o_a : Option Addr, ∃ o_c : Nat, ∃ o_n : Nat, ∃ o_ : Str, (p_q ≤ ql.length) ∧ (o_.length = o_n) ∧ (i_ ≤ 5000 ∧ (((i_ : Nat) : Int) ≤ k ∨ i_ = 0)) ∧ (o_.length = i_) ∧ EL e_ [(0, .pointer (some ⟨qb, 0, none⟩)), (1, iv k), (4, str []), (5, .slice o_a o_n o_c), (6, nv i_)] ∧ L_ = [Res.row (.slice o_a o_n o_c) 5 1 o_n (o_.map encB), cb qb qa qc ql p_q s_q] ∧ k_ = 5001 - i_) _ ⟨0, qp, qs, a_13, 0, 0, ([] : List UInt8), (by omega), (by first | rfl | omega | (simp only [List.length_append, List.length_cons, List.length_nil, List.length_set]; omega) | simp), (by omega), (by rfl), EL.go, rfl, rfl⟩ ?_
 rintro _ _ _ ⟨i_, p_q, s_q, o_a, o_c, o_n, o_, hpq_, ho_n, hi, ho, ⟨_, rfl⟩, rfl, rfl⟩
 refine go ?_
 by_cases h_14 : ((i_ : Nat) : Int) < k
 · refine go ?_
   refine jA [1] (D_byte qb qa qc ql p_q s_q (by omega) (by omega)) (hpre := fun w hw => ⟨hw.seeOut_ hs_qa (hpre.2), hw.apart hs_qa (hpre.2) (by simp)⟩) ?_
   rintro _ _ ⟨qp_15, qs_16, n_18, fq_17, f_19, rfl, rfl⟩
   refine jK (PO.convI (c := (((UInt8.ofNat n_18).toNat : Nat) : Int)) kW kU rfl (wr8u (c := UInt8.ofNat n_18) (by omega) (by first | rw [Int.toNat_natCast] | rfl | (congr 1; omega)))) ?_
   refine jF rfl (jR (ps := [(0, .int .u8 (((UInt8.ofNat n_18).toNat : Nat) : Int))]) (cur := #[.int .u8 (((UInt8.ofNat n_18).toNat : Nat) : Int)]) kN kg kj rfl (by kernel_rfl) (by decide) (by decide)) ?_
   rintro _ _ ⟨a_21, rfl, rfl⟩
   refine jF rfl (jX 2 (q := 1) (news := ([UInt8.ofNat n_18] : List UInt8).map encB) (n' := (o_ ++ ([UInt8.ofNat n_18] : List UInt8)).length) (cs' := (o_ ++ ([UInt8.ofNat n_18] : List UInt8)).map encB) rfl kN kN Tryz.typeInfo5 rfl (by' := 1) rfl rfl rfl rfl rfl (fun w hw => Src.sees (hw.see (i := 0) rfl) (oneB _)) (by (try simp only [LE]); omega) (by (try simp only [LE]); omega) (by simp only [List.length_append, List.length_take, List.length_drop, List.length_cons, List.length_nil] <;> first | rfl | omega) (by simp only [List.map_append])) ?_
   rintro _ _ ⟨a_22, c_23, rfl, rfl⟩
   refine go ?_
   exact jP [2, 1] ⟨(i_ + 1), qp_15, qs_16, a_22, c_23, ((o_ ++ ([UInt8.ofNat n_18] : List UInt8)).length), (o_ ++ ([UInt8.ofNat n_18] : List UInt8)), (by omega), (by first | rfl | omega | (simp only [List.length_append, List.length_cons, List.length_nil, List.length_set]; omega) | simp), (by omega), (by first | omega | (simp only [List.length_append, List.length_cons, List.length_nil, List.length_set]; omega)), EL.go, rfl, rfl⟩
 refine go ?_
 refine jU (LO.toStr 0 o_ rfl kN kU kO rfl rfl) ?_
 refine go ?_
 exact jJ [1] ⟨p_q, s_q, o_, (by omega), (by first | omega | (simp only [LE]; omega)), rfl, rfl⟩

theorem D_key (qb : Nat) (qa : Option Addr) (qc : Nat) (ql : Str) (qp : Nat) (qs : Int) (hql : ql.length ≤ 1048577) (hqp : qp ≤ ql.length)  :
   Ct Tryz.prog 118 [.pointer (some ⟨qb, 0, none⟩)] [cb qb qa qc ql qp qs] (fun w => seesC w qa qc ql [cb qb qa qc ql qp qs]) (fun v A' => ∃ qp' qs' r0, qp' ≤ ql.length ∧ (r0.length ≤ 64) ∧ v = str r0 ∧ A' = [cb qb qa qc ql qp' qs']) := by
 refine Ct.intro Tryz.func118 rfl Tryz.ntmps118 (lb rfl) fun w0 hpre => ?_
 have hs_qa : Sees w0 _ _ _ _ := hpre.1
 refine go ?_
 refine jF rfl (jR (ps := [(0, str [97]), (1, str [98]), (2, str [110, 47, 120]), (3, str [110, 47, 121]), (4, str [110, 47, 121, 121]), (5, str [105, 47, 49, 47, 115]), (6, str [105, 47, 49, 47, 98, 47, 48]), (7, str [105, 47, 49, 50, 47, 115]), (8, str [99, 47, 112, 105, 112, 101]), (9, str [112, 47, 49, 47, 104])]) (cur := #[str [97], str [98], str [110, 47, 120], str [110, 47, 121], str [110, 47, 121, 121], str [105, 47, 49, 47, 115], str [105, 47, 49, 47, 98, 47, 48], str [105, 47, 49, 50, 47, 115], str [99, 47, 112, 105, 112, 101], str [112, 47, 49, 47, 104]]) kI kM kV rfl (by kernel_rfl) (by decide) (by decide)) ?_
 rintro _ _ ⟨a_1, rfl, rfl⟩
 refine jA [1, 0] (D_pick qb qa qc ql qp qs a_1 10 ([[97], [98], [110, 47, 120], [110, 47, 121], [110, 47, 121, 121], [105, 47, 49, 47, 115], [105, 47, 49, 47, 98, 47, 48], [105, 47, 49, 50, 47, 115], [99, 47, 112, 105, 112, 101], [112, 47, 49, 47, 104]] : List Str) (by omega) (by omega) (by simp) (by simp)) (hpre := fun w hw => ⟨hw.seeOut_ hs_qa (hpre.2), hw.apart hs_qa (hpre.2) (by simp)⟩) ?_
 rintro _ _ ⟨qp_2, qs_3, u_5, fq_4, f_6, rfl, rfl⟩
 have hlu_5 : u_5.length ≤ 64 := by have hx_ := f_6; simp only [List.mem_cons, List.not_mem_nil, or_false] at hx_; rcases hx_ with hx_ | hx_ | hx_ | hx_ | hx_ | hx_ | hx_ | hx_ | hx_ | hx_ <;> first | (rw [hx_]; decide) | (rw [hx_]; omega)
 refine go ?_
 refine jE (.inl rfl) rfl (jC (v := str u_5) rfl) (List.Sublist.refl _) ?_
 exact ⟨qp_2, qs_3, u_5, (by omega), (by first | omega | (simp only [LE]; omega)), rfl, rfl⟩
end Go.Proofs.YthlfmbbaomdciaaGreatDoor
namespace Go.Proofs.YthlfmbbaomdciaaGreatDoor
open Go Go.RowKit
theorem Ct.toMach {P : Program} {f : FuncId} {args : List Value} {A : List Res} {Pre : World → Prop} {s : List Cell} {n : Nat} (h : Ct P f args A Pre (fun v A' => ∃ a c, v = .agg #[.slice a s.length c, .slice none 0 0, .slice none 0 0] ∧ A' = [rC a c s])) (hO : okC' n 64 s) :
   Ct P f args A Pre (fun v A' => ∃ r0x r0, (fun s => (⟨s, [], []⟩ : MS)) s = r0 ∧ r0.ok n 0 ∧ v = mv r0x r0 ∧ A' = mr r0x r0) := fun w hA hp => by
 refine (h w hA hp).mono fun e w' h => ?_
 obtain ⟨v, A', rfl, ⟨a, c, rfl, rfl⟩, hst⟩ := h
 refine ⟨_, mr ⟨a, c, none, 0, none, 0⟩ ⟨s, [], []⟩, rfl, ⟨⟨a, c, none, 0, none, 0⟩, _, rfl, ⟨hO.1, Nat.le_refl _, Nat.le_refl _, fun c hc => ⟨Nat.le_trans (hO.2 c hc).1 (by decide), Nat.le_trans (hO.2 c hc).2 (by decide)⟩⟩, rfl, rfl⟩, ?_⟩
 exact ((hst.nilRow 9 1).nilRow 9 1).perm (List.perm_append_comm (l₁ := [rS none 0 [], rS none 0 []]) (l₂ := [rC a c s])).symm
attribute [local irreducible] JL JC JQ JO LO PO JA JX Ct

theorem D_machOf (sa : Option Addr) (sc : Nat) (s : List Cell) (hs : s.length ≤ 1000000000) (n : Nat) (hO : okC' n 64 s) :
   Ct Tryz.prog 106 [.slice sa s.length sc] [] (fun w => Sees w (.slice sa s.length sc) 2 s.length (s.flatMap encC)) (fun v A' => ∃ r0x r0, (fun s => (⟨s, [], []⟩ : MS)) s = r0 ∧ r0.ok n 0 ∧ v = mv r0x r0 ∧ A' = mr r0x r0) := (D_machOf0 sa sc s hs).toMach hO
end Go.Proofs.YthlfmbbaomdciaaGreatDoor
namespace Go.Proofs.YthlfmbbaomdciaaGreatDoor
open Go Go.RowKit
attribute [local irreducible] JL JC JQ JO LO PO JA JX Ct
theorem C_sameTexts (a b : Option Addr) (c c' : Nat) (s t : List Str) (hn : s.length ≤ 9223372036854775807) :
   Ct Tryz.prog 107 [.slice a s.length c, .slice b t.length c'] [] (fun w => Sees w (.slice a s.length c) 1 s.length (s.map str) ∧ Sees w (.slice b t.length c') 1 t.length (t.map str)) (fun r A' => r = .bool (decide (s = t)) ∧ A' = []) := by
 refine Ct.intro Tryz.func107 rfl Tryz.ntmps107 (lb rfl) fun w0 hpre => ?_
 have hs_a : Sees w0 _ _ _ _ := hpre.1
 have hs_b : Sees w0 _ _ _ _ := hpre.2
 refine go ?_
 by_cases h_1 : ((s.length : Nat) : Int) = ((t.length : Nat) : Int)
 · have hlen := h_1
   refine go ?_
   refine jL (fun k_ e_ L_ => ∃ j : Nat, (j ≤ s.length) ∧ (s.take j = t.take j) ∧ (s.length = t.length) ∧ EL e_ [(0, .slice a s.length c), (1, .slice b t.length c'), (5, nv j)] ∧ L_ = [] ∧ k_ = s.length - j) _ ⟨0, by omega, rfl, by omega, EL.go, rfl, rfl⟩ ?_
   rintro _ _ _ ⟨j, hj, hE, hln, ⟨_, rfl⟩, rfl, rfl⟩
   refine go ?_
   by_cases h_2 : ((j : Nat) : Int) < ((s.length : Nat) : Int)
   · have hlt : j < s.length := by omega
     refine go ?_
     refine jH [] 8 ?_
     refine go ?_
     obtain ⟨hr_3, hr_3b, -⟩ := sees_some hs_a (by omega)
     refine go ?_
     refine jk 3 rfl (jY (v := str (s.getD j [])) hs_a nM rfl kJ (atS (by omega))) ?_
     refine go ?_
     obtain ⟨hr_4, hr_4b, -⟩ := sees_some hs_b (by omega)
     refine go ?_
     refine jk 7 rfl (jY (v := str (t.getD j [])) hs_b nM rfl kJ (atS (by omega))) ?_
     refine go ?_
     by_cases h_5 : (s.getD j []) = (t.getD j [])
     · have heq := h_5
       refine go ?_
       refine jV (s.length - (j + 1)) (by omega) ⟨j + 1, by omega, take_succ_eq [] hE hlt hln heq, hln, EL.go, rfl, rfl⟩
     have hne := h_5
     refine go ?_
     refine jE (.inl rfl) rfl (jC (v := .bool false) rfl) (List.nil_sublist _) ?_
     refine ⟨?_, rfl⟩
     rw [dF (fun h => hne (by rw [h]))]
   refine go ?_
   refine jE (.inl rfl) rfl (jC (v := .bool true) rfl) (List.nil_sublist _) ?_
   refine ⟨?_, rfl⟩
   rw [dT (take_all_eq hE (by omega) (by omega))]
 have hlen := h_1
 refine go ?_
 refine jE (.inl rfl) rfl (jC (v := .bool false) rfl) (List.nil_sublist _) ?_
 refine ⟨?_, rfl⟩
 rw [dF (fun h => by rw [h] at hlen; omega)]

theorem C_sameInts (a b : Option Addr) (c c' : Nat) (s t : List Int) (hn : s.length ≤ 9223372036854775807) :
   Ct Tryz.prog 68 [.slice a s.length c, .slice b t.length c'] [] (fun w => Sees w (.slice a s.length c) 1 s.length (s.map (Value.int .i64)) ∧ Sees w (.slice b t.length c') 1 t.length (t.map (Value.int .i64))) (fun r A' => r = .bool (decide (s = t)) ∧ A' = []) := by
 refine Ct.intro Tryz.func68 rfl Tryz.ntmps68 (lb rfl) fun w0 hpre => ?_
 have hs_a : Sees w0 _ _ _ _ := hpre.1
 have hs_b : Sees w0 _ _ _ _ := hpre.2
 refine go ?_
 by_cases h_1 : ((s.length : Nat) : Int) = ((t.length : Nat) : Int)
 · have hlen := h_1
   refine go ?_
   refine jL (fun k_ e_ L_ => ∃ j : Nat, (j ≤ s.length) ∧ (s.take j = t.take j) ∧ (s.length = t.length) ∧ EL e_ [(0, .slice a s.length c), (1, .slice b t.length c'), (5, nv j)] ∧ L_ = [] ∧ k_ = s.length - j) _ ⟨0, by omega, rfl, by omega, EL.go, rfl, rfl⟩ ?_
   rintro _ _ _ ⟨j, hj, hE, hln, ⟨_, rfl⟩, rfl, rfl⟩
   refine go ?_
   by_cases h_2 : ((j : Nat) : Int) < ((s.length : Nat) : Int)
   · have hlt : j < s.length := by omega
     refine go ?_
     refine jH [] 8 ?_
     refine go ?_
     obtain ⟨hr_3, hr_3b, -⟩ := sees_some hs_a (by omega)
     refine go ?_
     refine jk 3 rfl (jY (v := iv (s.getD j 0)) hs_a nM rfl kR (atI (by omega))) ?_
     refine go ?_
     obtain ⟨hr_4, hr_4b, -⟩ := sees_some hs_b (by omega)
     refine go ?_
     refine jk 7 rfl (jY (v := iv (t.getD j 0)) hs_b nM rfl kR (atI (by omega))) ?_
     refine go ?_
     by_cases h_5 : (s.getD j 0) = (t.getD j 0)
     · have heq := h_5
       refine go ?_
       refine jV (s.length - (j + 1)) (by omega) ⟨j + 1, by omega, take_succ_eq 0 hE hlt hln heq, hln, EL.go, rfl, rfl⟩
     have hne := h_5
     refine go ?_
     refine jE (.inl rfl) rfl (jC (v := .bool false) rfl) (List.nil_sublist _) ?_
     refine ⟨?_, rfl⟩
     rw [dF (fun h => hne (by rw [h]))]
   refine go ?_
   refine jE (.inl rfl) rfl (jC (v := .bool true) rfl) (List.nil_sublist _) ?_
   refine ⟨?_, rfl⟩
   rw [dT (take_all_eq hE (by omega) (by omega))]
 have hlen := h_1
 refine go ?_
 refine jE (.inl rfl) rfl (jC (v := .bool false) rfl) (List.nil_sublist _) ?_
 refine ⟨?_, rfl⟩
 rw [dF (fun h => by rw [h] at hlen; omega)]

theorem C_sameTouch (a1 a2 b1 b2 : Option Addr) (c1 c2 d1 d2 : Nat) (r w r' w' : List Str) (h1 : r.length ≤ 9223372036854775807) (h2 : w.length ≤ 9223372036854775807) :
   Ct Tryz.prog 26 [.agg #[.slice a1 r.length c1, .slice a2 w.length c2], .agg #[.slice b1 r'.length d1, .slice b2 w'.length d2]] [] (fun w_ => Sees w_ (.slice a1 r.length c1) 1 r.length (r.map str) ∧ Sees w_ (.slice a2 w.length c2) 1 w.length (w.map str) ∧ Sees w_ (.slice b1 r'.length d1) 1 r'.length (r'.map str) ∧ Sees w_ (.slice b2 w'.length d2) 1 w'.length (w'.map str)) (fun v A' => v = .bool (decide (r = r') && decide (w = w')) ∧ A' = []) := by
 refine Ct.intro Tryz.func26 rfl Tryz.ntmps26 (lb rfl) fun w0 hpre => ?_
 have hs_a1 : Sees w0 _ _ _ _ := hpre.1
 have hs_a2 : Sees w0 _ _ _ _ := hpre.2.1
 have hs_b1 : Sees w0 _ _ _ _ := hpre.2.2.1
 have hs_b2 : Sees w0 _ _ _ _ := hpre.2.2.2
 refine go ?_
 refine jM [.slice a1 r.length c1, .slice a2 w.length c2] fun b_1 => ?_
 refine jM [.slice b1 r'.length d1, .slice b2 w'.length d2] fun b_2 => ?_
 refine go ?_
 refine jN [] (C_sameTexts a1 b1 c1 d1 r r' (by omega)) (hpre := fun w hw => ⟨hw.seeOut_ hs_a1 nM, hw.seeOut_ hs_b1 nM⟩) ?_
 refine go ?_
 by_cases h_3 : r = r'
 · refine go ?_
   refine jW rfl rfl rfl (cB (dT h_3)) (jO [] Tryz.call107 rfl (C_sameTexts a2 b2 c2 d2 w w' (by omega)) rfl (fun w hw => ⟨hw.seeOut_ hs_a2 nM, hw.seeOut_ hs_b2 nM⟩)) ?_
   rintro _ _ ⟨_, ⟨rfl, rfl⟩, rfl⟩
   refine go ?_
   refine jE (.inl rfl) rfl (jC (v := .bool (decide (w = w'))) rfl) (List.nil_sublist _) ?_
   refine ⟨?_, rfl⟩
   simp_all
 refine go ?_
 refine jE (.inl rfl) rfl (jC (v := .bool false) rfl) (List.nil_sublist _) ?_
 refine ⟨?_, rfl⟩
 simp_all
end Go.Proofs.YthlfmbbaomdciaaGreatDoor
namespace Go.Proofs.YthlfmbbaomdciaaGreatDoor
open Go Go.RowKit
def TD.new (a b c : Int) : TD := ⟨a, b, c, 0, [], [], [], [], [], 1⟩
section
variable {P : Program} {ops : Array Oper} {Q : Exit → Act → World → Prop} {n : Nat} {w0 : World} {D : List Nat} {L L' : List Res} {e : Env}
section
variable {d : Option Tmp} {ty : TypeId} {pos : String} {aft : Array Edge} {gd : Option (Nat × Bool)}
theorem equal_bool {t : TypeId} (ht : P.underlying t = some .bool) (a b : Bool) (w : World) : (Op.equal t (.bool a) (.bool b)).run P w = .ok (decide (a = b)) w := by
 have h : ∀ d : Nat, (Op.equalIn (d + 1) t (.bool a) (.bool b)).run P w = .ok (decide (a = b)) w := fun d => by
   cases a <;> cases b <;> simp [Op.equalIn, run_underlying ht]
 simp only [Op.equal, Op.maxDepth, h 9999]
theorem PO.neqB {x y : Operand} {a b : Bool} {t u : TypeId} (ht : P.underlying t = some .bool) (hx : rd n e x = .bool a) (hy : rd n e y = .bool b) : PO P n e ⟨d, .binOp .neq t x y u, ty, pos, aft, gd⟩ (.bool (!decide (a = b))) := fun w => by
 simp [execOp, hx, hy, eqGuard, binOp, equal_bool ht]
end
end
end Go.Proofs.YthlfmbbaomdciaaGreatDoor
namespace Go.Proofs.YthlfmbbaomdciaaGreatDoor
open Go Go.RowKit
attribute [local irreducible] JL JC JQ JO LO PO JA JX Ct
theorem N_big (pa : Option Addr) (pc : Nat) (p : Str) :
   Ct Tryz.prog 13 [.slice pa p.length pc] [] (fun _ => True) (fun v A' => v = .bool (decide (1048576 < ((p.length : Nat) : Int))) ∧ A' = []) := by
 refine Ct.intro Tryz.func13 rfl Tryz.ntmps13 (lb rfl) fun w0 hpre => ?_
 refine go ?_
 exact jJ [] ⟨rfl, rfl⟩
end Go.Proofs.YthlfmbbaomdciaaGreatDoor
namespace Go.Proofs.YthlfmbbaomdciaaGreatDoor
open Go Go.RowKit
theorem stOk.boot : stOk ((⟨[], [], []⟩ : MS).spawn 0).1.s := by
 refine ⟨?_, ?_⟩
 · unfold ordC
   decide +kernel
 · decide +kernel
end Go.Proofs.YthlfmbbaomdciaaGreatDoor
