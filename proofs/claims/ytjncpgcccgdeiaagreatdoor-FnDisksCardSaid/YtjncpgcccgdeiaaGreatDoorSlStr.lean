/-
  Texts of the walk, joined: what each one proves stands at its theorems.
-/
import Derived.Test.YtjncpgcccgdeiaaGreatDoorS46OK
import Derived.Lib.Strings
import Derived.Lib.HexFns2
import Derived.Test.YtjncpgcccgdeiaaGreatDoorOpenZ
import Derived.Lib.ConvBytes
import Derived.Lib.SmallJoins
import Derived.Lib.AppendStr
set_option linter.unusedSimpArgs false
set_option linter.unusedVariables false
set_option linter.unnecessarySimpa false
namespace Go.Proofs.YtjncpgcccgdeiaaGreatDoor
open Go Go.RowKit

theorem digit_fin : ∀ d : Fin 16, Lib.Hx.digit d.val = hexFig d.val := by decide +kernel
theorem hexVal_fin : ∀ n : Fin 16, hexVal (hexFig n.val) = some n.val := by decide +kernel
theorem byte_fin : ∀ c : Fin 256, (match hexVal (UInt8.ofNat c.val) with | some n => decide (n < 16) && decide (Lib.Hx.v (UInt8.ofNat c.val) = n) && decide (hexFig n = UInt8.ofNat c.val) | none => true) = true := by decide +kernel
theorem hexVal_some {c : UInt8} {n : Nat} (h : hexVal c = some n) : n < 16 ∧ Lib.Hx.v c = n ∧ hexFig n = c := by
  have := byte_fin ⟨c.toNat, UInt8.toNat_lt c⟩
  rw [show UInt8.ofNat (⟨c.toNat, UInt8.toNat_lt c⟩ : Fin 256).val = c from UInt8.ofNat_toNat] at this
  rw [h] at this
  simp only [Bool.and_eq_true, decide_eq_true_eq] at this
  exact ⟨this.1.1, this.1.2, this.2⟩
theorem encode_hexB : ∀ l : Str, Lib.Hx.encode l = hexB l
  | [] => rfl
  | c :: l => by
    have hc := UInt8.toNat_lt c
    rw [Lib.Hx.encode_cons, hexB, encode_hexB l, digit_fin ⟨c.toNat / 16, by omega⟩, digit_fin ⟨c.toNat % 16, by omega⟩]
theorem unhexL_hexB : ∀ r : Str, unhexL (hexB r) = some r
  | [] => rfl
  | c :: r => by
    have hc := UInt8.toNat_lt c
    rw [hexB, unhexL, hexVal_fin ⟨c.toNat / 16, by omega⟩, hexVal_fin ⟨c.toNat % 16, by omega⟩, unhexL_hexB r]
    simp only
    rw [show 16 * (c.toNat / 16) + c.toNat % 16 = c.toNat by omega, UInt8.ofNat_toNat]
theorem unhexL_dec : ∀ (t r : Str), unhexL t = some r → hexB r = t ∧ Lib.Hx.decode t = (r, .ok)
  | [], r, h => by
    simp only [unhexL, Option.some.injEq] at h
    subst h
    exact ⟨rfl, Lib.Hx.decode_nil⟩
  | [_], r, h => by simp [unhexL] at h
  | a :: b :: t, r, h => by
    unfold unhexL at h
    split at h
    · rename_i hh ll rr h1 h2 h3
      simp only [Option.some.injEq] at h
      subst h
      obtain ⟨i1, i2⟩ := unhexL_dec t rr h3
      obtain ⟨a1, a2, a3⟩ := hexVal_some h1
      obtain ⟨b1, b2, b3⟩ := hexVal_some h2
      have hn : (UInt8.ofNat (16 * hh + ll)).toNat = 16 * hh + ll := UInt8.toNat_ofNat_of_lt' (by show _ < 256; omega)
      refine ⟨?_, ?_⟩
      · rw [hexB, hn, i1, show (16 * hh + ll) / 16 = hh by omega, show (16 * hh + ll) % 16 = ll by omega, a3, b3]
      · rw [Lib.Hx.decode_two, a2, b2, if_neg (by omega), if_neg (by omega), i2, Nat.mul_comm]
    · cases h
theorem unhex_yes {t r : Str} (hd : Lib.Hx.decode t = (r, .ok)) (h1 : ¬ (20000 : Int) < (r.length : Int)) (h2 : hexB r = t) : unhex t = (r, true) := by
  have hl := hexB_len r
  unfold unhex
  rw [if_neg (by rw [← h2, hl]; omega), ← h2, unhexL_hexB]
theorem unhex_err {t : Str} (hd : ∀ r, Lib.Hx.decode t ≠ (r, .ok)) : unhex t = ([], false) := by
  unfold unhex
  split
  · rfl
  · cases h : unhexL t with
    | none => rfl
    | some r => exact absurd (unhexL_dec t r h).2 (hd r)
theorem unhex_long {t r : Str} (hd : Lib.Hx.decode t = (r, .ok)) (h1 : (20000 : Int) < (r.length : Int)) : unhex t = ([], false) := by
  unfold unhex
  split
  · rfl
  · rename_i hl
    cases h : unhexL t with
    | none => rfl
    | some r' =>
      have := unhexL_dec t r' h
      rw [hd] at this
      have e : r = r' := (Prod.mk.inj this.2).1
      subst e
      have := unhexL_len t r h
      omega
theorem unhex_ne {t r : Str} (hd : Lib.Hx.decode t = (r, .ok)) (h1 : ¬ hexB r = t) : unhex t = ([], false) := by
  unfold unhex
  split
  · rfl
  · cases h : unhexL t with
    | none => rfl
    | some r' =>
      have := unhexL_dec t r' h
      rw [hd] at this
      have e : r = r' := (Prod.mk.inj this.2).1
      subst e
      exact absurd this.1 h1
/-- What Hex hands back. -/
def hexP (s : Str) : Str × Bool := if 20000 < (s.length : Int) then ([], false) else (hexB s, true)
theorem hexS_P (s : Str) : hexS s = (hexP s).1 := by
  unfold hexS hexP
  by_cases h : 20000 < s.length
  · rw [if_pos h, if_pos (by omega)]
  · rw [if_neg h, if_neg (by omega)]
def hexAcc : Str → Str → Str
  | [], out => out
  | c :: s, out => hexAcc s (out ++ [hexFig (c.toNat / 16), hexFig (c.toNat % 16)])
theorem hexAcc_app : ∀ (s out : Str), hexAcc s out = out ++ hexB s
  | [], out => by simp [hexAcc, hexB]
  | c :: s, out => by rw [hexAcc, hexAcc_app s, hexB]; simp
def hexV (c : UInt8) : Int := match hexVal c with | some n => (n : Int) | none => -1
theorem unhexL_step {t out : Str} {j : Nat} (h : j + 1 < t.length) : (unhexL (t.drop j)).map (out ++ ·) = if hexV (t.getD j 0) < 0 ∨ hexV (t.getD (j + 1) 0) < 0 then none else
    (unhexL (t.drop (j + 2))).map ((out ++ [UInt8.ofNat (16 * hexV (t.getD j 0) + hexV (t.getD (j + 1) 0)).toNat]) ++ ·) := by
  rw [drop_at (getD_some (d := (0 : UInt8)) (by omega : j < t.length)), drop_at (getD_some (d := (0 : UInt8)) h), unhexL]
  unfold hexV
  cases h1 : hexVal (t.getD j 0) with
  | none => simp
  | some a =>
    cases h2 : hexVal (t.getD (j + 1) 0) with
    | none => simp
    | some b =>
      rw [if_neg (by simp only; omega)]
      have e : (16 * (a : Int) + (b : Int)).toNat = 16 * a + b := by omega
      simp only [e]
      cases unhexL (t.drop (j + 2)) with
      | none => rfl
      | some r => simp
theorem unhex_some {t r : Str} (h : unhexL t = some r) (h1 : ¬ (40000 : Int) < (t.length : Int)) : unhex t = (r, true) := by
  unfold unhex
  rw [if_neg (by omega), h]
theorem unhex_none {t : Str} (h : unhexL t = none) : unhex t = ([], false) := by
  unfold unhex
  rw [h]
  split <;> rfl
theorem unhexL_odd : ∀ (t : Str), t.length % 2 = 1 → unhexL t = none
  | [], h => by simp at h
  | [_], _ => rfl
  | a :: b :: t, h => by
    unfold unhexL
    rw [unhexL_odd t (by simp only [List.length_cons] at h; omega)]
    cases hexVal a <;> cases hexVal b <;> rfl
theorem unhex_bad {t : Str} (h : (40000 : Int) < (t.length : Int) ∨ ¬ ((t.length % 2 : Nat) : Int) = 0) : unhex t = ([], false) := by
  rcases h with h | h
  · unfold unhex
    rw [if_pos (by omega)]
  · exact unhex_none (unhexL_odd t (by omega))
theorem hexAcc_nil (s : Str) : hexAcc s [] = hexB s := by rw [hexAcc_app]; rfl
theorem hexP_no {s : Str} (h : ¬ (20000 : Int) < (s.length : Int)) : hexP s = (hexB s, true) := by unfold hexP; rw [if_neg h]
theorem hexP_yes {s : Str} (h : (20000 : Int) < (s.length : Int)) : hexP s = ([], false) := by unfold hexP; rw [if_pos h]
theorem hexFig_lo {k : Nat} (h : k < 10) : (hexFig k).toNat = 48 + k := by
  unfold hexFig
  rw [if_pos h, UInt8.toNat_ofNat_of_lt' (by show _ < 256; omega)]
theorem hexFig_hi {k : Nat} (h : ¬ k < 10) (h2 : k < 16) : (hexFig k).toNat = 87 + k := by
  unfold hexFig
  rw [if_neg h, UInt8.toNat_ofNat_of_lt' (by show _ < 256; omega)]
theorem hexV_a {c : UInt8} (h1 : 48 ≤ c.toNat) (h2 : c.toNat ≤ 57) : hexV c = (c.toNat : Int) - 48 := by
  unfold hexV hexVal
  rw [if_pos ⟨h1, h2⟩]
  simp only
  omega
theorem hexV_b {c : UInt8} (h1 : 97 ≤ c.toNat) (h2 : c.toNat ≤ 102) : hexV c = (c.toNat : Int) - 97 + 10 := by
  unfold hexV hexVal
  rw [if_neg (by omega), if_pos ⟨h1, h2⟩]
  simp only
  omega
theorem hexV_c {c : UInt8} (h1 : c.toNat < 48 ∨ 57 < c.toNat) (h2 : c.toNat < 97 ∨ 102 < c.toNat) : hexV c = -1 := by
  unfold hexV hexVal
  rw [if_neg (by omega), if_neg (by omega)]
end Go.Proofs.YtjncpgcccgdeiaaGreatDoor

set_option linter.unusedSimpArgs false
set_option linter.unusedVariables false
set_option linter.unnecessarySimpa false
namespace Go.Proofs.YtjncpgcccgdeiaaGreatDoor
open Go Go.RowKit

@[reducible] def rB (a : Option Addr) (c : Nat) (l : Str) : Res := .row (.slice a l.length c) 5 1 l.length (l.map encB)
theorem wr8u {x : Int} {c : UInt8} (h : 0 ≤ x ∧ x < 256) (hc : c = UInt8.ofNat x.toNat) : IntKind.u8.wrap x = ((c.toNat : Nat) : Int) := by
  subst hc
  refine wr8 ⟨?_, by omega, by omega⟩
  rw [UInt8.toNat_ofNat_of_lt' (by show _ < 256; omega)]
  omega
theorem setB {l : Str} {i : Nat} {c : UInt8} (h : i < l.length) : (l.map encB).take (i * 1) ++ [.int .u8 (c.toNat : Int)] ++ (l.map encB).drop (i * 1 + 1) = (l.set i c).map encB := by
  have e : ∀ q : Str, q.flatMap (fun s => [encB s]) = q.map encB := fun q => by
    induction q with
    | nil => rfl
    | cons x q ih => rw [List.flatMap_cons, ih]; rfl
  have := flat_set (enc := fun s => [encB s]) (k := 1) (fun _ => rfl) l i c h
  rw [e, e] at this
  exact this
section
variable {P : Program} {ops : Array Oper} {Q : Exit → Act → World → Prop} {n : Nat} {w0 w : World} {D : List Nat} {L : List Res} {e : Env}
variable {d : Option Tmp} {ty : TypeId} {pos : String} {aft : Array Edge} {gd : Option (Nat × Bool)}
/-- A text's bytes, copied into a row of their own. -/
theorem JO.toBytes {src dst : TypeId} {x : Operand} {s : Str} (hs : P.underlying src = some .string) (hd : P.underlying dst = some (.slice TB)) (he : P.underlying TB = some (.int .u8)) (hx : rd n e x = str s) (hm : s.length ≤ maxLen) :
    JO P n w0 D L e ⟨d, .convert src dst x, ty, pos, aft, gd⟩ (fun u L' => ∃ a c, u = .slice a s.length c ∧ L' = .row (.slice a s.length c) TB 1 s.length (s.map encB) :: L) := JO.ofRun fun w hw => by
  have hsz : (ByteArray.mk s.toArray).size = s.length := size_mk s
  have hrun := Lib.run_convert_string_bytes (P := P) w src dst TB ⟨s.toArray⟩ hs hd he
  have hge := grownCap_ge w s.length 0 TB
  have hle := grownCap_le_maxLen w s.length 0 TB hm
  have hcs : (Lib.bytesCells w TB ⟨s.toArray⟩).size = grownCap w s.length 0 TB := by
    unfold Lib.bytesCells
    rw [hsz]
    simp
    omega
  have hcl : (Lib.bytesCells w TB ⟨s.toArray⟩).toList.take s.length = s.map encB := by
    unfold Lib.bytesCells
    simp only [Array.toList_append, Array.toList_map]
    rw [List.take_append_of_le_length (by simp), List.take_of_length_le (by simp)]
  refine ⟨_, .row (.slice (some ⟨w.heap.size, 0, none⟩) s.length (grownCap w s.length 0 TB)) TB 1 s.length (s.map encB) :: L, Lib.bytesWorld w TB ⟨s.toArray⟩, ?_, ⟨_, _, rfl, rfl⟩, ?_⟩
  · simp only [execOp, hx, str, Sem.run_bind, hrun, Result.andThen_ok, hsz]
    rfl
  · refine hw.turn (A := []) (A' := [.row (.slice (some ⟨w.heap.size, 0, none⟩) s.length (grownCap w s.length 0 TB)) TB 1 s.length (s.map encB)]) (F := L) (List.Perm.refl _) rfl rfl rfl (by rw [Lib.bytesWorld_size]; omega)
      (fun k hk _ => Lib.bytesWorld_at_old w _ _ k hk) ?_ (by simp [idsOf, Res.ids, Value.ownBlock]) ?_
    · intro r hr
      simp only [List.mem_singleton] at hr
      subst hr
      refine ⟨by simp, .inr ⟨w.heap.size, _, _, rfl, Nat.zero_le _, ⟨_, Lib.bytesWorld_at_new w TB ⟨s.toArray⟩, .inr ⟨Nat.le_refl _, rfl⟩⟩, hge, hle, by rw [hcs, Nat.mul_one]; exact Nat.le_refl _, by rw [Nat.mul_one]; exact hcl⟩⟩
    · intro i hi
      simp only [idsOf, Res.ids, Value.ownBlock, List.flatMap_cons, List.flatMap_nil, List.append_nil, Option.mem_toList, Option.some.injEq] at hi
      exact .inr (by omega)
end

theorem N_hexEnc (a : Option Addr) (c : Nat) (l : Str) (hl : l.length ≤ 1000000000000) : Ct Tryz.prog 148 [.slice a l.length c] [] (fun w => Sees w (.slice a l.length c) 1 l.length (l.map encB)) (fun v A' => v = str (hexB l) ∧ A' = []) := fun w hA hs => by
  obtain ⟨hlen, hs⟩ := hs
  rcases hs with ⟨hv, h0⟩ | ⟨b, o, cap, hv, h1, h2, h3, h4⟩
  · have hl0 : l = [] := List.length_eq_zero_iff.1 h0
    subst hl0
    simp only [Value.slice.injEq] at hv
    obtain ⟨rfl, _, rfl⟩ := hv
    refine (Tryz.hex_EncodeToString_nil w).mono fun e w' h => ?_
    obtain ⟨rfl, hb⟩ := h
    exact ⟨_, [], rfl, ⟨rfl, rfl⟩, hA.below hb⟩
  · simp only [Value.slice.injEq] at hv
    obtain ⟨rfl, _, rfl⟩ := hv
    refine (Tryz.hex_EncodeToString_bytes b o c l w (fun i hi => ?_) h3 (by omega)).mono fun e w' h => ?_
    · exact h4 i _ (by rw [List.getElem?_map, List.getElem?_eq_getElem hi]; rfl)
    · obtain ⟨rfl, hb⟩ := h
      exact ⟨_, [], rfl, ⟨by rw [encode_hexB]; rfl, rfl⟩, hA.below hb⟩
/-- What DecodeString hands back. -/
def decPost (t : Str) (v : Value) (A' : List Res) : Prop := ∃ a c, ∃ r : Str, ((Lib.Hx.decode t = (r, .ok) ∧ v = .tuple #[.slice a r.length c, .nilIface]) ∨ ((∀ r, Lib.Hx.decode t ≠ (r, .ok)) ∧ ∃ te pe, v = .tuple #[.slice a r.length c, .iface te pe])) ∧ A' = [rB a c r]
theorem N_hexDec (t : Str) (ht : t.length ≤ 1000000000000) : Ct Tryz.prog 147 [str t] [] (fun w => HexOk w) (fun v A' => decPost t v A') := fun w hA hx => by
  obtain ⟨tp, p, hE⟩ := hx.cell
  have hl : (ByteArray.mk t.toArray).data.toList = t := by simp
  refine (Tryz.hex_DecodeString_owns ⟨t.toArray⟩ w _ hE (by rw [size_mk]; omega)).mono fun e w' h => ?_
  rw [hl] at h
  obtain ⟨v, rfl, hown, hb⟩ := h
  generalize hd : Lib.Hx.decode t = q at hown
  obtain ⟨r, o⟩ := q
  simp only at hown
  have hvs : ∃ a c, v = .slice a r.length c := by
    rcases hown.2 with ⟨hv, h0⟩ | ⟨g, cap, cur, hv, _⟩
    · exact ⟨none, 0, by rw [hv, h0]⟩
    · exact ⟨_, _, hv⟩
  obtain ⟨a, c, rfl⟩ := hvs
  have hst : St w (idsOf []) [rB a c r] w' := by
    refine (St.start hA).turn (A := []) (A' := [rB a c r]) (F := []) (List.Perm.refl _) hb.os hb.tape hb.output hb.size (fun k hk _ => hb.block k hk) ?_ ?_ ?_
    · intro x hx'
      simp only [List.mem_singleton] at hx'
      subst hx'
      have h1 := World.ownsR.of hown
      refine ⟨h1.1, ?_⟩
      rcases h1.2 with h | ⟨g, cap, cur, hv, _, rest⟩
      · exact .inl h
      · exact .inr ⟨g, cap, cur, hv, Nat.zero_le _, rest⟩
    · simp only [idsOf, Res.ids, List.flatMap_cons, List.flatMap_nil, List.append_nil]
      cases (Value.slice a r.length c).ownBlock <;> simp
    · intro i hi
      simp only [idsOf, Res.ids, List.flatMap_cons, List.flatMap_nil, List.append_nil, Option.mem_toList] at hi
      exact .inr (World.ownsRow.lt hown i hi).1
  refine ⟨_, _, rfl, ⟨a, c, r, ?_, rfl⟩, hst⟩
  cases o with
  | ok => exact .inl ⟨hd, rfl⟩
  | bad q => exact .inr ⟨fun r' h => by rw [hd] at h; simp at h, _, _, rfl⟩
  | odd => exact .inr ⟨fun r' h => by rw [hd] at h; simp at h, _, _, rfl⟩
end Go.Proofs.YtjncpgcccgdeiaaGreatDoor

set_option linter.unusedSimpArgs false
set_option linter.unusedVariables false
set_option linter.unnecessarySimpa false
namespace Go.Proofs.YtjncpgcccgdeiaaGreatDoor
open Go Go.RowKit

theorem C_itoa (n : Int) (h0 : -9223372036854775808 ≤ n) (h1 : n ≤ 9223372036854775807) : Ct Tryz.prog 83 [.int .i64 n] [] (fun _ => True) (fun v A' => v = str (dec n) ∧ A' = []) := fun w hA _ => by
  refine (Tryz.strconv_Itoa n h0 h1 w hA.glob.1).mono fun e w' h => ?_
  obtain ⟨rfl, k, os, rfl⟩ := h
  exact ⟨_, [], rfl, ⟨rfl, rfl⟩, hA.below (below_grow w k os)⟩

/-- What Atoi says. -/
def atoiPost (t : Str) (v : Value) : Prop := (∃ n, Lib.atoiAll t = .ok n ∧ v = .tuple #[.int .i64 n, .nilIface]) ∨ ((∀ n, Lib.atoiAll t ≠ .ok n) ∧ ∃ n te pe, v = .tuple #[.int .i64 n, .iface te pe])
theorem C_atoi (t : Str) (ht : t.length ≤ 281474976710656) : Ct Tryz.prog 145 [str t] [] (fun _ => True) (fun v A' => atoiPost t v ∧ A' = []) := fun w hA _ => by
  have hs : (ByteArray.mk t.toArray).size = t.length := size_mk t
  have hl : (ByteArray.mk t.toArray).data.toList = t := by simp
  obtain ⟨tp, p, hv1⟩ := hA.glob.two
  obtain ⟨tp', p', hv2⟩ := hA.glob.three
  rcases hat : Lib.atoiAll t with n | _ | _
  · skip
    refine (Tryz.strconv_Atoi_ok ⟨t.toArray⟩ (by rw [hs]; omega) n (by rw [hl]; exact hat) w).mono fun e w' h => ?_
    obtain ⟨rfl, h⟩ := h
    have hb : Below w.heap.size w w' := by
      rcases h with rfl | ⟨q, rfl⟩
      · exact Below.refl _ _
      · exact ⟨rfl, rfl, rfl, by rw [Lib.bytesWorld_size]; omega, fun k hk => Lib.bytesWorld_at_old w _ _ k hk⟩
    exact ⟨_, [], rfl, ⟨.inl ⟨n, hat, rfl⟩, rfl⟩, hA.below hb⟩
  · skip
    refine (Any.strconv_Atoi_syntax_var Tryz.laysC172 ⟨t.toArray⟩ (by rw [hs]; omega) (by rw [hl]; exact hat) tp p w hv1).mono fun e w' h => ?_
    obtain ⟨N, rfl, _, _, hb⟩ := h
    exact ⟨_, [], rfl, ⟨.inr ⟨fun n hn => by rw [hat] at hn; simp at hn, _, _, _, rfl⟩, rfl⟩, hA.below hb⟩
  · skip
    refine (Tryz.strconv_Atoi_range_var ⟨t.toArray⟩ (by rw [hs]; omega) (by rw [hl]; exact hat) tp' p' w hv2).mono fun e w' h => ?_
    obtain ⟨N, rfl, _, _, hb⟩ := h
    exact ⟨_, [], rfl, ⟨.inr ⟨fun n hn => by rw [hat] at hn; simp at hn, _, _, _, rfl⟩, rfl⟩, hA.below hb⟩
end Go.Proofs.YtjncpgcccgdeiaaGreatDoor

set_option linter.unusedSimpArgs false
set_option linter.unusedVariables false
set_option linter.unnecessarySimpa false
namespace Go.Proofs.YtjncpgcccgdeiaaGreatDoor
open Go Go.RowKit
attribute [local irreducible] JL JC JQ JO LO PO JA JX Ct

theorem C_within (n lo hi : Int) :
    Ct Tryz.prog 76 [.int .i64 n, .int .i64 lo, .int .i64 hi] [] (fun _ => True) (fun v A' => v = .bool (decide (lo ≤ n) && decide (n ≤ hi)) ∧ A' = []) := by
  refine Ct.intro Tryz.func76 rfl Tryz.ntmps76 (lb rfl) fun w0 hpre => ?_
  refine jC <| jF <| jA (jG (v := .bool false) rfl) <| jE <| jB <| jC <| jF <| jA (jD (v := iv n) rfl) <| jA (jD (v := iv lo) rfl) <| jA (PO.geq rfl rfl) ?_
  refine jA (jD (v := .bool (decide (lo ≤ n))) rfl) ?_
  by_cases h_1 : lo ≤ n
  · refine jM rfl rfl rfl (cB (dT h_1)) (jP (jU (jD (v := iv n) rfl))) ?_
    rintro _ _ ⟨rfl, rfl⟩
    refine jM rfl rfl rfl (cB (dT h_1)) (jP (jU (jD (v := iv hi) rfl))) ?_
    rintro _ _ ⟨rfl, rfl⟩
    refine jM rfl rfl rfl (cB (dT h_1)) (jP (jU (PO.leq rfl rfl))) ?_
    rintro _ _ ⟨rfl, rfl⟩
    refine jA (jh (v := .bool (decide (n ≤ hi))) (cB (dT h_1)) rfl) <| jA (jG (v := .bool (decide (n ≤ hi))) rfl) <| jE <| jB <| jN <| jV (.inl rfl) rfl (jJ (v := .bool (decide (n ≤ hi))) rfl) (List.nil_sublist _) ?_
    refine ⟨?_, rfl⟩
    simp_all <;> omega
  refine jS (b := false) rfl rfl rfl (cB (dF h_1)) <| jS (b := false) rfl rfl rfl (cB (dF h_1)) <| jS (b := false) rfl rfl rfl (cB (dF h_1)) <| jA (ji (v := .bool false) (cB (dF h_1)) rfl) <| jA (jG (v := .bool false) rfl) <| jE <| jB <| jN <| jV (.inl rfl) rfl (jJ (v := .bool false) rfl) (List.nil_sublist _) ?_
  refine ⟨?_, rfl⟩
  simp_all <;> omega

theorem C_keyOk (key : Str) (hk : key.length ≤ 1000000000000) :
    Ct Tryz.prog 78 [str key] [] (fun _ => True) (fun v A' => v = .bool (keyOk key) ∧ A' = []) := by
  refine Ct.intro Tryz.func78 rfl Tryz.ntmps78 (lb rfl) fun w0 hpre => ?_
  refine jC <| jF <| jA (jG (v := .bool false) rfl) <| jE <| jB <| jC <| jC <| jF <| jA (jD (v := str key) rfl) <| jA (kF kg rfl) ?_
  refine jA (jD (v := iv 0) rfl) <| jE <| jB <| jf <| kD (fun k_ e_ L_ => ∃ j : Nat, (j ≤ key.length) ∧ (∀ i, i < j → i < key.length → keyByte (key.getD i 0) = true) ∧ e_ 0 = str key ∧ e_ 5 = iv (key.length : Int) ∧ e_ 6 = nv j ∧ L_ = [] ∧ k_ = key.length - j) _ ⟨0, by omega, (fun i hi => absurd hi (Nat.not_lt_zero i)), rfl, rfl, rfl, rfl, rfl⟩ ?_
  rintro _ e_1 _ ⟨j, hj, hN, he_2, he_3, he_4, rfl, rfl⟩
  refine jC <| jF <| jA (jl he_4 he_3) <| jE <| jB <| jC ?_
  by_cases h_5 : ((j : Nat) : Int) < (key.length : Int)
  · refine jW (cB (dT h_5)) <| jT <| jB <| jC <| jf <| jC <| jF <| jA (jD (v := nv j) he_4) <| jA (jG (v := nv j) rfl) <| jE ?_
    refine jB <| jC <| jF <| jA (jD (v := str key) he_2) <| jA (jD (v := nv j) rfl) <| jA (PO.indexS (i := j) (c := key.getD j 0) kg rfl rfl (getD_some (by omega))) ?_
    have hu_6 := UInt8.toNat_lt (key.getD j 0)
    refine jA (jl rfl rfl) <| jA (jD (v := .bool (decide (((key.getD j 0).toNat : Int) < 33))) rfl) ?_
    by_cases h_7 : ((key.getD j 0).toNat : Int) < 33
    · refine jS (b := true) rfl rfl rfl (cB (dT h_7)) <| jS (b := true) rfl rfl rfl (cB (dT h_7)) <| jS (b := true) rfl rfl rfl (cB (dT h_7)) <| jS (b := true) rfl rfl rfl (cB (dT h_7)) <| jA (jh (v := .bool true) (cB (dT h_7)) rfl) <| jA (jD (v := .bool true) rfl) <| jS (b := true) rfl rfl rfl (cB rfl) <| jS (b := true) rfl rfl rfl (cB rfl) <| jS (b := true) rfl rfl rfl (cB rfl) <| jS (b := true) rfl rfl rfl (cB rfl) ?_
      refine jA (jh (v := .bool true) (cB rfl) rfl) <| jE <| jB <| jW (cB rfl) <| jC <| jF <| jA (jG (v := .bool false) rfl) <| jE <| jB <| jN ?_
      refine jv <| jX <| jX <| jv <| jX <| jV (.inl rfl) rfl (jJ (v := .bool false) rfl) (List.nil_sublist _) ?_
      refine ⟨?_, rfl⟩
      rw [keyOk_bad (j := j) (by omega) (by simp only [keyByte, Bool.and_eq_true, Bool.and_eq_false_iff, decide_eq_true_eq, decide_eq_false_iff_not, Bool.not_eq_true', Bool.not_eq_false']; omega)]
    refine jM rfl rfl rfl (cB (dF h_7)) (jP (jU (jD (v := str key) he_2))) ?_
    rintro _ _ ⟨rfl, rfl⟩
    refine jM rfl rfl rfl (cB (dF h_7)) (jP (jU (jD (v := nv j) rfl))) ?_
    rintro _ _ ⟨rfl, rfl⟩
    refine jM rfl rfl rfl (cB (dF h_7)) (jP (jU (PO.indexS (i := j) (c := key.getD j 0) kg rfl rfl (getD_some (by omega))))) ?_
    rintro _ _ ⟨rfl, rfl⟩
    have hu_8 := UInt8.toNat_lt (key.getD j 0)
    refine jM rfl rfl rfl (cB (dF h_7)) (jP (jU (kR rfl rfl))) ?_
    rintro _ _ ⟨rfl, rfl⟩
    refine jA (ji (v := .bool (decide (126 < ((key.getD j 0).toNat : Int)))) (cB (dF h_7)) rfl) <| jA (jD (v := .bool (decide (126 < ((key.getD j 0).toNat : Int)))) rfl) ?_
    by_cases h_9 : 126 < ((key.getD j 0).toNat : Int)
    · refine jS (b := true) rfl rfl rfl (cB (dT h_9)) <| jS (b := true) rfl rfl rfl (cB (dT h_9)) <| jS (b := true) rfl rfl rfl (cB (dT h_9)) <| jS (b := true) rfl rfl rfl (cB (dT h_9)) <| jA (jh (v := .bool true) (cB (dT h_9)) rfl) <| jE <| jB <| jW (cB rfl) <| jC <| jF ?_
      refine jA (jG (v := .bool false) rfl) <| jE <| jB <| jN <| jv <| jX <| jX <| jv <| jX <| jV (.inl rfl) rfl (jJ (v := .bool false) rfl) (List.nil_sublist _) ?_
      refine ⟨?_, rfl⟩
      rw [keyOk_bad (j := j) (by omega) (by simp only [keyByte, Bool.and_eq_true, Bool.and_eq_false_iff, decide_eq_true_eq, decide_eq_false_iff_not, Bool.not_eq_true', Bool.not_eq_false']; omega)]
    refine jM rfl rfl rfl (cB (dF h_9)) (jP (jU (jD (v := str key) he_2))) ?_
    rintro _ _ ⟨rfl, rfl⟩
    refine jM rfl rfl rfl (cB (dF h_9)) (jP (jU (jD (v := nv j) rfl))) ?_
    rintro _ _ ⟨rfl, rfl⟩
    refine jM rfl rfl rfl (cB (dF h_9)) (jP (jU (PO.indexS (i := j) (c := key.getD j 0) kg rfl rfl (getD_some (by omega))))) ?_
    rintro _ _ ⟨rfl, rfl⟩
    have hu_10 := UInt8.toNat_lt (key.getD j 0)
    refine jM rfl rfl rfl (cB (dF h_9)) (jP (jU (kO rfl rfl))) ?_
    rintro _ _ ⟨rfl, rfl⟩
    refine jA (ji (v := .bool (decide (((key.getD j 0).toNat : Int) = 42))) (cB (dF h_9)) rfl) <| jE <| jB ?_
    by_cases h_11 : ((key.getD j 0).toNat : Int) = 42
    · refine jW (cB (dT h_11)) <| jC <| jF <| jA (jG (v := .bool false) rfl) <| jE <| jB <| jN <| jv <| jX <| jX ?_
      refine jv <| jX <| jV (.inl rfl) rfl (jJ (v := .bool false) rfl) (List.nil_sublist _) ?_
      refine ⟨?_, rfl⟩
      rw [keyOk_bad (j := j) (by omega) (by simp only [keyByte, Bool.and_eq_true, Bool.and_eq_false_iff, decide_eq_true_eq, decide_eq_false_iff_not, Bool.not_eq_true', Bool.not_eq_false']; omega)]
    refine jR (cB (dF h_11)) <| jT <| jm <| jB <| jF <| jA (jc (c := ((j + 1 : Nat) : Int)) he_4 rfl (wr (by omega))) <| jA (jD (v := iv ((j + 1 : Nat) : Int)) rfl) <| jE ?_
    refine jq (key.length - (j + 1)) (by omega) ⟨j + 1, by omega, (fun i hi hl => if h : i = j then h ▸ (by simp only [keyByte, Bool.and_eq_true, Bool.and_eq_false_iff, decide_eq_true_eq, decide_eq_false_iff_not, Bool.not_eq_true', Bool.not_eq_false']; omega : keyByte (key.getD j 0) = true) else hN i (by omega) hl), he_2, he_3, rfl, rfl, rfl⟩
  refine jR (cB (dF h_5)) <| jx <| jb <| jb <| jy <| jB <| jC <| jF <| jA (jD (v := str key) he_2) <| jA (kF kg rfl) ?_
  refine jH rfl (jI [] Tryz.call76 rfl (C_within (key.length : Int) 1 40) rfl (fun _ _ => trivial)) ?_
  rintro _ _ ⟨_, ⟨rfl, rfl⟩, rfl⟩
  refine jA (jG (v := .bool (decide (1 ≤ (key.length : Int)) && decide ((key.length : Int) ≤ 40))) rfl) <| jE <| jB <| jN <| jV (.inl rfl) rfl (jJ (v := .bool (decide (1 ≤ (key.length : Int)) && decide ((key.length : Int) ≤ 40))) rfl) (List.nil_sublist _) ?_
  refine ⟨?_, rfl⟩
  rw [keyOk_good (j := j) (by omega) hN]
  exact cB (by congr 1 <;> exact decide_eq_decide.2 (by omega))

theorem C_put1 (kb : Nat) (key : Str) (x : Cell) :
    Ct Tryz.prog 125 [.agg #[str x.1, str x.2], .pointer (some ⟨kb, 0, none⟩)] [bk kb 9 [str key]] (fun _ => True) (fun v A' => v = .bool (decide (x.1 = key)) ∧ A' = [bk kb 9 [str key]]) := by
  refine Ct.intro Tryz.func125 rfl Tryz.ntmps125 (lb rfl) fun w0 hpre => ?_
  refine jC <| jF ?_
  refine jH rfl (kG (cs := [str x.1, str x.2]) rfl rfl) ?_
  rintro _ _ ⟨b_1, rfl, rfl⟩
  refine jA (jG (v := .bool false) rfl) <| jE <| jB <| jC <| jF <| jA (jQ fo48_0 rfl) <| jK (jZ 0 (v := str x.1) rfl rfl ki rfl) <| jK (jZ 1 (v := str key) rfl rfl ki rfl) <| jA (PO.eqlS rfl rfl) <| jA (jG (v := .bool (decide (x.1 = key))) rfl) ?_
  refine jE <| jB <| jN <| kM (pick_perm [1] (A := [bk kb 9 [str key]]) (F := [bk b_1 48 [str x.1, str x.2]]) rfl).symm <| jV (.inl rfl) rfl (jJ (v := .bool (decide (x.1 = key))) rfl) (sL [bk kb 9 [str key]] [bk b_1 48 [str x.1, str x.2]]) ?_
  exact ⟨rfl, rfl⟩

theorem C_put2 (kb : Nat) (key : Str) (x : Cell) :
    Ct Tryz.prog 127 [.agg #[str x.1, str x.2], .pointer (some ⟨kb, 0, none⟩)] [bk kb 9 [str key]] (fun _ => True) (fun v A' => v = .bool (gtrB x.1 key) ∧ A' = [bk kb 9 [str key]]) := by
  refine Ct.intro Tryz.func127 rfl Tryz.ntmps127 (lb rfl) fun w0 hpre => ?_
  refine jC <| jF ?_
  refine jH rfl (kG (cs := [str x.1, str x.2]) rfl rfl) ?_
  rintro _ _ ⟨b_1, rfl, rfl⟩
  refine jA (jG (v := .bool false) rfl) <| jE <| jB <| jC <| jF <| jA (jQ fo48_0 rfl) <| jK (jZ 0 (v := str x.1) rfl rfl ki rfl) <| jK (jZ 1 (v := str key) rfl rfl ki rfl) <| jA (PO.gtrS rfl rfl) <| jA (jG (v := .bool (!Op.bytesLess x.1 key && !decide (x.1 = key))) rfl) ?_
  refine jE <| jB <| jN <| kM (pick_perm [1] (A := [bk kb 9 [str key]]) (F := [bk b_1 48 [str x.1, str x.2]]) rfl).symm <| jV (.inl rfl) rfl (jJ (v := .bool (!Op.bytesLess x.1 key && !decide (x.1 = key))) rfl) (sL [bk kb 9 [str key]] [bk b_1 48 [str x.1, str x.2]]) ?_
  exact ⟨rfl, rfl⟩


theorem C_put (a : Option Addr) (c : Nat) (s : List Cell) (key val : Str) (hn : s.length ≤ 100000000000) (hk : key.length ≤ 1000000000000) :
    Ct Tryz.prog 86 [.slice a s.length c, str key, str val] [Res.row (.slice a s.length c) 48 2 s.length (s.flatMap encC)] (fun _ => True) (fun v A' => ∃ a' c', v = .slice a' (putKey s key val).length c' ∧ A' = [.row (.slice a' (putKey s key val).length c') 48 2 (putKey s key val).length ((putKey s key val).flatMap encC)]) := by
  refine Ct.intro Tryz.func86 rfl Tryz.ntmps86 (lb rfl) fun w0 hpre => ?_
  refine jC <| jF ?_
  refine jH rfl (kG (cs := [str key]) rfl rfl) ?_
  rintro _ _ ⟨b_1, rfl, rfl⟩
  refine jA (jG (v := .slice none 0 0) rfl) <| jE <| jB <| jC <| jC <| jF <| jK (jZ 0 (v := str key) rfl rfl ki rfl) ?_
  refine jH rfl (jI [] Tryz.call78 rfl (C_keyOk key (by omega)) rfl (fun _ _ => trivial)) ?_
  rintro _ _ ⟨_, ⟨rfl, rfl⟩, rfl⟩
  refine jA (jp rfl) <| jA (jD (v := .bool (!(keyOk key))) rfl) ?_
  rcases Bool.eq_false_or_eq_true (keyOk key) with h_2 | h_2
  · refine jM rfl rfl rfl (cB (cN h_2)) (jP (jU (jD (v := str val) rfl))) ?_
    rintro _ _ ⟨rfl, rfl⟩
    refine jM rfl rfl rfl (cB (cN h_2)) (jP (jU (kF kg rfl))) ?_
    rintro _ _ ⟨rfl, rfl⟩
    refine jM rfl rfl rfl (cB (cN h_2)) (jP (jU (kR rfl rfl))) ?_
    rintro _ _ ⟨rfl, rfl⟩
    refine jA (ji (v := .bool (decide (60 < (val.length : Int)))) (cB (cN h_2)) rfl) <| jE <| jB ?_
    by_cases h_3 : 60 < (val.length : Int)
    · refine jW (cB (dT h_3)) <| jC <| jF <| jA (jD (v := .slice a s.length c) rfl) <| jA (jG (v := .slice a s.length c) rfl) <| jE <| jB <| jN <| jX <| kM (pick_perm [1] (A := [Res.row (.slice a s.length c) 48 2 s.length (s.flatMap encC)]) (F := [bk b_1 9 [str key]]) rfl).symm ?_
      refine jV (.inl rfl) rfl (jJ (v := .slice a s.length c) rfl) (sL [Res.row (.slice a s.length c) 48 2 s.length (s.flatMap encC)] [bk b_1 9 [str key]]) ?_
      have he := (putKey_bad2 (by omega) : putKey s key val = _)
      exact ⟨_, _, by rw [he], by rw [he] <;> rfl⟩
    refine jR (cB (dF h_3)) <| jT <| jB <| jC <| jF <| jA (jD (v := .slice a s.length c) rfl) <| jA (PO.makeFunc (fv := []) (cv := [.pointer (some ⟨b_1, 0, none⟩)]) rfl rfl) ?_
    refine jH rfl (jI [0, 0] Tryz.call124 rfl (C_delC 125 Tryz.call125 b_1 key (fun q_ => decide (q_.1 = key)) (C_put1 b_1 key) a c s (by omega)) rfl (fun _ _ => trivial)) ?_
    rintro _ _ ⟨_, ⟨a_4, c_5, rfl, rfl⟩, rfl⟩
    have hfi5 : (s.filter (fun c => !decide (c.1 = key))).length ≤ s.length := List.length_filter_le _ _
    refine jA (jG (v := .slice a_4 ((s.filter (fun c => !decide (c.1 = key))).length) c_5) rfl) <| jE <| jB <| jC <| jC <| jF <| jA (jD (v := str val) rfl) <| jA (PO.eqlS rfl rfl) <| jE <| jB ?_
    by_cases h_6 : val = []
    · refine jW (cB (dT h_6)) <| jC <| jF <| jA (jD (v := .slice a_4 ((s.filter (fun c => !decide (c.1 = key))).length) c_5) rfl) <| jA (jG (v := .slice a_4 ((s.filter (fun c => !decide (c.1 = key))).length) c_5) rfl) <| jE <| jB <| jN <| jX <| kM (pick_perm [1] (A := [Res.row (.slice a_4 ((s.filter (fun c => !decide (c.1 = key))).length) c_5) 48 2 ((s.filter (fun c => !decide (c.1 = key))).length) ((s.filter (fun c => !decide (c.1 = key))).flatMap encC)]) (F := [bk b_1 9 [str key]]) rfl).symm ?_
      refine jV (.inl rfl) rfl (jJ (v := .slice a_4 ((s.filter (fun c => !decide (c.1 = key))).length) c_5) rfl) (sL [Res.row (.slice a_4 ((s.filter (fun c => !decide (c.1 = key))).length) c_5) 48 2 ((s.filter (fun c => !decide (c.1 = key))).length) ((s.filter (fun c => !decide (c.1 = key))).flatMap encC)] [bk b_1 9 [str key]]) ?_
      have he := (putKey_nil h_2 (by omega) h_6 : putKey s key val = _)
      exact ⟨_, _, by rw [he], by rw [he] <;> rfl⟩
    refine jR (cB (dF h_6)) <| jT <| jB <| jC <| jF <| jA (jD (v := .slice a_4 ((s.filter (fun c => !decide (c.1 = key))).length) c_5) rfl) <| jA (PO.makeFunc (fv := []) (cv := [.pointer (some ⟨b_1, 0, none⟩)]) rfl rfl) ?_
    refine jH rfl (jI [0] Tryz.call126 rfl (C_idxC 127 Tryz.call127 b_1 key (fun q_ => gtrB q_.1 key) (C_put2 b_1 key) a_4 c_5 (s.filter (fun c => !decide (c.1 = key))) (by omega)) rfl (fun w hw => ⟨hw.see (i := 1) rfl, hw.apartO 1 0 rfl rfl rfl⟩)) ?_
    rintro _ _ ⟨_, ⟨rfl, rfl⟩, rfl⟩
    have hix6 := idxI_lo (fun q_ => gtrB q_.1 key) (s.filter (fun c => !decide (c.1 = key)))
    have hfl6 := findAt_le (fun q_ => gtrB q_.1 key) (s.filter (fun c => !decide (c.1 = key)))
    refine jA (jG (v := iv (idxI (fun q_ => gtrB q_.1 key) (s.filter (fun c => !decide (c.1 = key))))) rfl) <| jE <| jB <| jC <| jC <| jF <| jA (jD (v := iv (idxI (fun q_ => gtrB q_.1 key) (s.filter (fun c => !decide (c.1 = key))))) rfl) <| jA (jl rfl rfl) <| jE <| jB ?_
    by_cases h_7 : (idxI (fun q_ => gtrB q_.1 key) (s.filter (fun c => !decide (c.1 = key)))) < 0
    · have hx_8l : findAt (fun q_ => gtrB q_.1 key) (s.filter (fun c => !decide (c.1 = key))) = (s.filter (fun c => !decide (c.1 = key))).length := by omega
      refine jW (cB (dT h_7)) <| jF <| jA (jD (v := .slice a_4 ((s.filter (fun c => !decide (c.1 = key))).length) c_5) rfl) <| jA (jr kf rfl) <| jA (jG (v := iv (((s.filter (fun c => !decide (c.1 = key))).length : Nat) : Int)) rfl) <| jE <| jB <| jC <| jF <| jA (jD (v := .slice a_4 ((s.filter (fun c => !decide (c.1 = key))).length) c_5) rfl) ?_
      refine jA (jD (v := iv (((s.filter (fun c => !decide (c.1 = key))).length : Nat) : Int)) rfl) <| jK (jZ 0 (v := str key) rfl rfl ki rfl) <| jA (jD (v := str val) rfl) <| jA (kW (ps := [(0, str key), (1, str val)]) (cs := [str key, str val]) rfl (by kernel_rfl)) ?_
      refine jH rfl (kH (ps := [(0, .agg #[str key, str val])]) (cur := #[str key, str val]) kf kh kw rfl (by kernel_rfl) (by decide) (by decide)) ?_
      rintro _ _ ⟨a_9, rfl, rfl⟩
      refine jH rfl (jI [2, 0] Tryz.call128 rfl (C_insC a_4 a_9 c_5 (s.filter (fun c => !decide (c.1 = key))) ((s.filter (fun c => !decide (c.1 = key))).length) (key, val) (by omega) (by omega) (by rw [lenC])) rfl (fun _ _ => trivial)) ?_
      rintro _ _ ⟨_, ⟨a_10, c_11, rfl, rfl⟩, rfl⟩
      refine jA (jG (v := .slice a_10 ((insertAt ((s.filter (fun c => !decide (c.1 = key))).length) (key, val) (s.filter (fun c => !decide (c.1 = key)))).length) c_11) rfl) <| jE <| jB <| jN <| jV (.inl rfl) rfl (jJ (v := .slice a_10 ((insertAt ((s.filter (fun c => !decide (c.1 = key))).length) (key, val) (s.filter (fun c => !decide (c.1 = key)))).length) c_11) rfl) (sL [Res.row (.slice a_10 ((insertAt ((s.filter (fun c => !decide (c.1 = key))).length) (key, val) (s.filter (fun c => !decide (c.1 = key)))).length) c_11) 48 2 ((insertAt ((s.filter (fun c => !decide (c.1 = key))).length) (key, val) (s.filter (fun c => !decide (c.1 = key)))).length) ((insertAt ((s.filter (fun c => !decide (c.1 = key))).length) (key, val) (s.filter (fun c => !decide (c.1 = key)))).flatMap encC)] [bk b_1 9 [str key]]) ?_
      have he := (putKey_ins h_2 (by omega) h_6 : putKey s key val = _)
      exact ⟨_, _, by rw [he, hx_8l], by rw [he, hx_8l] <;> rfl⟩
    have hx_12l : findAt (fun q_ => gtrB q_.1 key) (s.filter (fun c => !decide (c.1 = key))) < (s.filter (fun c => !decide (c.1 = key))).length := by omega
    have hx_12e : idxI (fun q_ => gtrB q_.1 key) (s.filter (fun c => !decide (c.1 = key))) = ((findAt (fun q_ => gtrB q_.1 key) (s.filter (fun c => !decide (c.1 = key))) : Nat) : Int) := by omega
    refine jR (cB (dF h_7)) <| jT <| jB <| jC <| jF <| jA (jD (v := .slice a_4 ((s.filter (fun c => !decide (c.1 = key))).length) c_5) rfl) <| jA (jD (v := iv ((findAt (fun q_ => gtrB q_.1 key) (s.filter (fun c => !decide (c.1 = key))) : Nat) : Int)) (congrArg (Value.int .i64) hx_12e)) <| jK (jZ 0 (v := str key) rfl rfl ki rfl) <| jA (jD (v := str val) rfl) <| jA (kW (ps := [(0, str key), (1, str val)]) (cs := [str key, str val]) rfl (by kernel_rfl)) ?_
    refine jH rfl (kH (ps := [(0, .agg #[str key, str val])]) (cur := #[str key, str val]) kf kh kw rfl (by kernel_rfl) (by decide) (by decide)) ?_
    rintro _ _ ⟨a_13, rfl, rfl⟩
    refine jH rfl (jI [2, 0] Tryz.call128 rfl (C_insC a_4 a_13 c_5 (s.filter (fun c => !decide (c.1 = key))) (findAt (fun q_ => gtrB q_.1 key) (s.filter (fun c => !decide (c.1 = key)))) (key, val) (by omega) (by omega) (by rw [lenC])) rfl (fun _ _ => trivial)) ?_
    rintro _ _ ⟨_, ⟨a_14, c_15, rfl, rfl⟩, rfl⟩
    refine jA (jG (v := .slice a_14 ((insertAt (findAt (fun q_ => gtrB q_.1 key) (s.filter (fun c => !decide (c.1 = key)))) (key, val) (s.filter (fun c => !decide (c.1 = key)))).length) c_15) rfl) <| jE <| jB <| jN <| jV (.inl rfl) rfl (jJ (v := .slice a_14 ((insertAt (findAt (fun q_ => gtrB q_.1 key) (s.filter (fun c => !decide (c.1 = key)))) (key, val) (s.filter (fun c => !decide (c.1 = key)))).length) c_15) rfl) (sL [Res.row (.slice a_14 ((insertAt (findAt (fun q_ => gtrB q_.1 key) (s.filter (fun c => !decide (c.1 = key)))) (key, val) (s.filter (fun c => !decide (c.1 = key)))).length) c_15) 48 2 ((insertAt (findAt (fun q_ => gtrB q_.1 key) (s.filter (fun c => !decide (c.1 = key)))) (key, val) (s.filter (fun c => !decide (c.1 = key)))).length) ((insertAt (findAt (fun q_ => gtrB q_.1 key) (s.filter (fun c => !decide (c.1 = key)))) (key, val) (s.filter (fun c => !decide (c.1 = key)))).flatMap encC)] [bk b_1 9 [str key]]) ?_
    have he := (putKey_ins h_2 (by omega) h_6 : putKey s key val = _)
    exact ⟨_, _, by rw [he], by rw [he] <;> rfl⟩
  refine jS (b := true) rfl rfl rfl (cB (cN h_2)) <| jS (b := true) rfl rfl rfl (cB (cN h_2)) <| jS (b := true) rfl rfl rfl (cB (cN h_2)) <| jA (jh (v := .bool true) (cB (cN h_2)) rfl) <| jE <| jB <| jW (cB rfl) <| jC <| jF <| jA (jD (v := .slice a s.length c) rfl) ?_
  refine jA (jG (v := .slice a s.length c) rfl) <| jE <| jB <| jN <| jX <| kM (pick_perm [1] (A := [Res.row (.slice a s.length c) 48 2 s.length (s.flatMap encC)]) (F := [bk b_1 9 [str key]]) rfl).symm <| jV (.inl rfl) rfl (jJ (v := .slice a s.length c) rfl) (sL [Res.row (.slice a s.length c) 48 2 s.length (s.flatMap encC)] [bk b_1 9 [str key]]) ?_
  have he := (putKey_bad1 h_2 : putKey s key val = _)
  exact ⟨_, _, by rw [he], by rw [he] <;> rfl⟩

end Go.Proofs.YtjncpgcccgdeiaaGreatDoor

set_option linter.unusedSimpArgs false
set_option linter.unusedVariables false
set_option linter.unnecessarySimpa false
namespace Go.Proofs.YtjncpgcccgdeiaaGreatDoor
open Go Go.RowKit
attribute [local irreducible] JL JC JQ JO LO PO JA JX Ct





theorem C_decimal (n : Int) (h0 : -9223372036854775808 ≤ n) (h1 : n ≤ 9223372036854775807) :
    Ct Tryz.prog 29 [.int .i64 n] [] (fun _ => True) (fun v A' => v = str (dec n) ∧ A' = []) := by
  refine Ct.intro Tryz.func29 rfl Tryz.ntmps29 (lb rfl) fun w0 hpre => ?_
  refine jC <| jF <| jA (jG (v := str []) rfl) <| jE <| jB <| jC <| jF <| jA (jD (v := iv n) rfl) ?_
  refine jH rfl (jI [] Tryz.call83 rfl (C_itoa n (by omega) (by omega)) rfl (fun _ _ => trivial)) ?_
  rintro _ _ ⟨_, ⟨rfl, rfl⟩, rfl⟩
  refine jA (jG (v := str (dec n)) rfl) <| jE <| jB <| jN <| jV (.inl rfl) rfl (jJ (v := str (dec n)) rfl) (List.nil_sublist _) ?_
  exact ⟨rfl, rfl⟩

theorem C_readDecimal (t : Str) (ht : t.length ≤ 281474976710656) :
    Ct Tryz.prog 113 [str t] [] (fun _ => True) (fun v A' => v = .tuple #[.int .i64 (readDec t).1, .bool (readDec t).2] ∧ A' = []) := by
  refine Ct.intro Tryz.func113 rfl Tryz.ntmps113 (lb rfl) fun w0 hpre => ?_
  refine jC <| jF <| jA (jG (v := iv 0) rfl) <| jA (jG (v := .bool false) rfl) <| jE <| jB <| jC <| jF <| jA (jD (v := str t) rfl) ?_
  refine jH rfl (jI [] Tryz.call145 rfl (C_atoi t (by omega)) rfl (fun _ _ => trivial)) ?_
  rintro _ _ ⟨_, ⟨⟨n_, hat, rfl⟩ | ⟨hat, n_, te, pe, rfl⟩, rfl⟩, rfl⟩
  · refine jA (jD (v := .tuple #[iv n_, .nilIface]) rfl) <| jA (je (v := iv n_) rfl rfl) <| jA (je (v := .nilIface) rfl rfl) <| jA (jG (v := iv n_) rfl) <| jA (jG (v := .nilIface) rfl) <| jE <| jB <| jC <| jC <| jF ?_
    refine jA (jD (v := .nilIface) rfl) <| jA (PO.neqIfN Tryz.underlying95 rfl rfl) <| jA (jD (v := .bool false) rfl) <| jM rfl rfl rfl (cB rfl) (jP (jU (jD (v := iv n_) rfl))) ?_
    rintro _ _ ⟨rfl, rfl⟩
    refine jM rfl rfl rfl (cB rfl) (jI [] Tryz.call76 rfl (C_within n_ 0 1000000000) rfl (fun _ _ => trivial)) ?_
    rintro _ _ ⟨_, ⟨rfl, rfl⟩, rfl⟩
    refine jM rfl rfl rfl (cB rfl) (jP (jU (jp rfl))) ?_
    rintro _ _ ⟨rfl, rfl⟩
    refine jA (ji (v := .bool (!(decide (0 ≤ n_) && decide (n_ ≤ 1000000000)))) (cB rfl) rfl) <| jA (jD (v := .bool (!(decide (0 ≤ n_) && decide (n_ ≤ 1000000000)))) rfl) ?_
    rcases Bool.eq_false_or_eq_true (decide (0 ≤ n_) && decide (n_ ≤ 1000000000)) with h_1 | h_1
    · have h_1d := h_1
      simp only [Bool.and_eq_true, Bool.and_eq_false_iff, decide_eq_true_eq, decide_eq_false_iff_not] at h_1d
      refine jM rfl rfl rfl (cB (cN h_1)) (jP (jU (jD (v := iv n_) rfl))) ?_
      rintro _ _ ⟨rfl, rfl⟩
      refine jM rfl rfl rfl (cB (cN h_1)) (jI [] Tryz.call29 rfl (C_decimal n_ (by omega) (by omega)) rfl (fun _ _ => trivial)) ?_
      rintro _ _ ⟨_, ⟨rfl, rfl⟩, rfl⟩
      refine jM rfl rfl rfl (cB (cN h_1)) (jP (jU (jD (v := str t) rfl))) ?_
      rintro _ _ ⟨rfl, rfl⟩
      refine jM rfl rfl rfl (cB (cN h_1)) (jP (jU (PO.neqS rfl rfl))) ?_
      rintro _ _ ⟨rfl, rfl⟩
      refine jA (ji (v := .bool (!(decide ((dec n_) = t)))) (cB (cN h_1)) rfl) <| jE <| jB ?_
      by_cases h_2 : (dec n_) = t
      · refine jR (cB (cN (dT h_2))) <| jT <| jB <| jC <| jF <| jA (jD (v := iv n_) rfl) <| jA (jG (v := iv n_) rfl) <| jA (jG (v := .bool true) rfl) <| jE <| jB ?_
        refine jN <| kC (.inl rfl) rfl (jJ (v := iv n_) rfl) (jJ (v := .bool true) rfl) (List.nil_sublist _) ?_
        refine ⟨?_, rfl⟩
        rw [readDec_ok hat, if_pos (by refine ⟨?_, ?_, ?_⟩ <;> first | omega | simp_all)]
      refine jW (cB (cN (dF h_2))) <| jC <| jF <| jA (jG (v := iv 0) rfl) <| jA (jG (v := .bool false) rfl) <| jE <| jB <| jN <| jX <| kC (.inl rfl) rfl (jJ (v := iv 0) rfl) (jJ (v := .bool false) rfl) (List.nil_sublist _) ?_
      refine ⟨?_, rfl⟩
      rw [readDec_ok hat, if_neg (fun h => by simp_all <;> omega)]
    have h_1d := h_1
    simp only [Bool.and_eq_true, Bool.and_eq_false_iff, decide_eq_true_eq, decide_eq_false_iff_not] at h_1d
    refine jS (b := true) rfl rfl rfl (cB (cN h_1)) <| jS (b := true) rfl rfl rfl (cB (cN h_1)) <| jS (b := true) rfl rfl rfl (cB (cN h_1)) <| jS (b := true) rfl rfl rfl (cB (cN h_1)) <| jA (jh (v := .bool true) (cB (cN h_1)) rfl) <| jE <| jB <| jW (cB rfl) <| jC <| jF ?_
    refine jA (jG (v := iv 0) rfl) <| jA (jG (v := .bool false) rfl) <| jE <| jB <| jN <| jX <| kC (.inl rfl) rfl (jJ (v := iv 0) rfl) (jJ (v := .bool false) rfl) (List.nil_sublist _) ?_
    refine ⟨?_, rfl⟩
    rw [readDec_ok hat, if_neg (fun h => by simp_all <;> omega)]
  refine jA (jD (v := .tuple #[iv n_, .iface te pe]) rfl) <| jA (je (v := iv n_) rfl rfl) <| jA (je (v := .iface te pe) rfl rfl) <| jA (jG (v := iv n_) rfl) <| jA (jG (v := .iface te pe) rfl) <| jE <| jB <| jC <| jC <| jF ?_
  refine jA (jD (v := .iface te pe) rfl) <| jA (PO.neqIfS Tryz.underlying95 rfl rfl) <| jA (jD (v := .bool true) rfl) <| jS (b := true) rfl rfl rfl (cB rfl) <| jS (b := true) rfl rfl rfl (cB rfl) <| jS (b := true) rfl rfl rfl (cB rfl) <| jA (jh (v := .bool true) (cB rfl) rfl) <| jA (jD (v := .bool true) rfl) <| jS (b := true) rfl rfl rfl (cB rfl) <| jS (b := true) rfl rfl rfl (cB rfl) ?_
  refine jS (b := true) rfl rfl rfl (cB rfl) <| jS (b := true) rfl rfl rfl (cB rfl) <| jA (jh (v := .bool true) (cB rfl) rfl) <| jE <| jB <| jW (cB rfl) <| jC <| jF <| jA (jG (v := iv 0) rfl) <| jA (jG (v := .bool false) rfl) ?_
  refine jE <| jB <| jN <| jX <| kC (.inl rfl) rfl (jJ (v := iv 0) rfl) (jJ (v := .bool false) rfl) (List.nil_sublist _) ?_
  rw [readDec_err hat]
  exact ⟨rfl, rfl⟩





end Go.Proofs.YtjncpgcccgdeiaaGreatDoor

set_option linter.unusedSimpArgs false
set_option linter.unusedVariables false
set_option linter.unnecessarySimpa false
namespace Go.Proofs.YtjncpgcccgdeiaaGreatDoor
open Go Go.RowKit
attribute [local irreducible] JL JC JQ JO LO PO JA JX Ct

theorem C_l01In (n lo hi : Int) :
    Ct Tryz.prog 89 [.int .i64 n, .int .i64 lo, .int .i64 hi] [] (fun _ => True) (fun v A' => v = .bool (decide (lo ≤ n) && decide (n ≤ hi)) ∧ A' = []) := by
  refine Ct.intro Tryz.func89 rfl Tryz.ntmps89 (lb rfl) fun w0 hpre => ?_
  refine jC <| jF <| jA (jG (v := .bool false) rfl) <| jE <| jB <| jC <| jF <| jA (jD (v := iv n) rfl) <| jA (jD (v := iv lo) rfl) <| jA (PO.geq rfl rfl) ?_
  refine jA (jD (v := .bool (decide (lo ≤ n))) rfl) ?_
  by_cases h_1 : lo ≤ n
  · refine jM rfl rfl rfl (cB (dT h_1)) (jP (jU (jD (v := iv n) rfl))) ?_
    rintro _ _ ⟨rfl, rfl⟩
    refine jM rfl rfl rfl (cB (dT h_1)) (jP (jU (jD (v := iv hi) rfl))) ?_
    rintro _ _ ⟨rfl, rfl⟩
    refine jM rfl rfl rfl (cB (dT h_1)) (jP (jU (PO.leq rfl rfl))) ?_
    rintro _ _ ⟨rfl, rfl⟩
    refine jA (jh (v := .bool (decide (n ≤ hi))) (cB (dT h_1)) rfl) <| jA (jG (v := .bool (decide (n ≤ hi))) rfl) <| jE <| jB <| jN <| jV (.inl rfl) rfl (jJ (v := .bool (decide (n ≤ hi))) rfl) (List.nil_sublist _) ?_
    refine ⟨?_, rfl⟩
    simp_all <;> omega
  refine jS (b := false) rfl rfl rfl (cB (dF h_1)) <| jS (b := false) rfl rfl rfl (cB (dF h_1)) <| jS (b := false) rfl rfl rfl (cB (dF h_1)) <| jA (ji (v := .bool false) (cB (dF h_1)) rfl) <| jA (jG (v := .bool false) rfl) <| jE <| jB <| jN <| jV (.inl rfl) rfl (jJ (v := .bool false) rfl) (List.nil_sublist _) ?_
  refine ⟨?_, rfl⟩
  simp_all <;> omega

theorem C_sKeyOk (key : Str) (hk : key.length ≤ 1000000000000) :
    Ct Tryz.prog 92 [str key] [] (fun _ => True) (fun v A' => v = .bool (keyOk key) ∧ A' = []) := by
  refine Ct.intro Tryz.func92 rfl Tryz.ntmps92 (lb rfl) fun w0 hpre => ?_
  refine jC <| jF <| jA (jG (v := .bool false) rfl) <| jE <| jB <| jC <| jC <| jF <| jA (jG (v := iv 0) rfl) <| jE ?_
  refine jB <| jf <| kD (fun k_ e_ L_ => ∃ j : Nat, (j ≤ key.length) ∧ (∀ i, i < j → i < key.length → keyByte (key.getD i 0) = true) ∧ e_ 0 = str key ∧ e_ 3 = nv j ∧ L_ = [] ∧ k_ = key.length - j) _ ⟨0, by omega, (fun i hi => absurd hi (Nat.not_lt_zero i)), rfl, rfl, rfl, rfl⟩ ?_
  rintro _ e_1 _ ⟨j, hj, hN, he_2, he_3, rfl, rfl⟩
  refine jC <| jC <| jF <| jA (jD (v := nv j) he_3) <| jA (jD (v := str key) he_2) <| jA (kF kg rfl) <| jA (jl rfl rfl) <| jE <| jB ?_
  by_cases h_4 : ((j : Nat) : Int) < (key.length : Int)
  · refine jW (cB (dT h_4)) <| jT <| jB <| jC <| jf <| jC <| jF <| jA (jD (v := str key) he_2) <| jA (jD (v := nv j) he_3) <| jA (PO.indexS (i := j) (c := key.getD j 0) kg rfl rfl (getD_some (by omega))) ?_
    have hu_5 := UInt8.toNat_lt (key.getD j 0)
    refine jA (PO.convI (c := ((key.getD j 0).toNat : Int)) kv gC rfl (wr (by omega))) ?_
    refine jH rfl (jI [] Tryz.call89 rfl (C_l01In ((key.getD j 0).toNat : Int) 33 126) rfl (fun _ _ => trivial)) ?_
    rintro _ _ ⟨_, ⟨rfl, rfl⟩, rfl⟩
    refine jA (jp rfl) <| jA (jD (v := .bool (!(decide (33 ≤ ((key.getD j 0).toNat : Int)) && decide (((key.getD j 0).toNat : Int) ≤ 126)))) rfl) ?_
    rcases Bool.eq_false_or_eq_true (decide (33 ≤ ((key.getD j 0).toNat : Int)) && decide (((key.getD j 0).toNat : Int) ≤ 126)) with h_6 | h_6
    · have h_6d := h_6
      simp only [Bool.and_eq_true, Bool.and_eq_false_iff, decide_eq_true_eq, decide_eq_false_iff_not] at h_6d
      refine jM rfl rfl rfl (cB (cN h_6)) (jP (jU (jD (v := str key) he_2))) ?_
      rintro _ _ ⟨rfl, rfl⟩
      refine jM rfl rfl rfl (cB (cN h_6)) (jP (jU (jD (v := nv j) he_3))) ?_
      rintro _ _ ⟨rfl, rfl⟩
      refine jM rfl rfl rfl (cB (cN h_6)) (jP (jU (PO.indexS (i := j) (c := key.getD j 0) kg rfl rfl (getD_some (by omega))))) ?_
      rintro _ _ ⟨rfl, rfl⟩
      have hu_7 := UInt8.toNat_lt (key.getD j 0)
      refine jM rfl rfl rfl (cB (cN h_6)) (jP (jU (kO rfl rfl))) ?_
      rintro _ _ ⟨rfl, rfl⟩
      refine jA (ji (v := .bool (decide (((key.getD j 0).toNat : Int) = 42))) (cB (cN h_6)) rfl) <| jE <| jB ?_
      by_cases h_8 : ((key.getD j 0).toNat : Int) = 42
      · refine jW (cB (dT h_8)) <| jC <| jF <| jA (jG (v := .bool false) rfl) <| jE <| jB <| jN <| jv <| jX <| jX ?_
        refine jv <| jX <| jV (.inl rfl) rfl (jJ (v := .bool false) rfl) (List.nil_sublist _) ?_
        refine ⟨?_, rfl⟩
        rw [keyOk_bad (j := j) (by omega) (by simp only [keyByte, Bool.and_eq_true, Bool.and_eq_false_iff, decide_eq_true_eq, decide_eq_false_iff_not, Bool.not_eq_true', Bool.not_eq_false']; omega)]
      refine jR (cB (dF h_8)) <| jT <| jm <| jB <| jF <| jA (jD (v := nv j) he_3) <| jA (jc (c := ((j + 1 : Nat) : Int)) rfl rfl (wr (by omega))) <| jA (jG (v := iv ((j + 1 : Nat) : Int)) rfl) <| jE ?_
      refine jq (key.length - (j + 1)) (by omega) ⟨j + 1, by omega, (fun i hi hl => if h : i = j then h ▸ (by simp only [keyByte, Bool.and_eq_true, Bool.and_eq_false_iff, decide_eq_true_eq, decide_eq_false_iff_not, Bool.not_eq_true', Bool.not_eq_false']; omega : keyByte (key.getD j 0) = true) else hN i (by omega) hl), he_2, rfl, rfl, rfl⟩
    have h_6d := h_6
    simp only [Bool.and_eq_true, Bool.and_eq_false_iff, decide_eq_true_eq, decide_eq_false_iff_not] at h_6d
    refine jS (b := true) rfl rfl rfl (cB (cN h_6)) <| jS (b := true) rfl rfl rfl (cB (cN h_6)) <| jS (b := true) rfl rfl rfl (cB (cN h_6)) <| jS (b := true) rfl rfl rfl (cB (cN h_6)) <| jA (jh (v := .bool true) (cB (cN h_6)) rfl) <| jE <| jB <| jW (cB rfl) <| jC <| jF ?_
    refine jA (jG (v := .bool false) rfl) <| jE <| jB <| jN <| jv <| jX <| jX <| jv <| jX <| jV (.inl rfl) rfl (jJ (v := .bool false) rfl) (List.nil_sublist _) ?_
    refine ⟨?_, rfl⟩
    rw [keyOk_bad (j := j) (by omega) (by simp only [keyByte, Bool.and_eq_true, Bool.and_eq_false_iff, decide_eq_true_eq, decide_eq_false_iff_not, Bool.not_eq_true', Bool.not_eq_false']; omega)]
  refine jR (cB (dF h_4)) <| jx <| jb <| jb <| jy <| jB <| jC <| jF <| jA (jD (v := str key) he_2) <| jA (kF kg rfl) ?_
  refine jH rfl (jI [] Tryz.call89 rfl (C_l01In (key.length : Int) 1 40) rfl (fun _ _ => trivial)) ?_
  rintro _ _ ⟨_, ⟨rfl, rfl⟩, rfl⟩
  refine jA (jG (v := .bool (decide (1 ≤ (key.length : Int)) && decide ((key.length : Int) ≤ 40))) rfl) <| jE <| jB <| jN <| jV (.inl rfl) rfl (jJ (v := .bool (decide (1 ≤ (key.length : Int)) && decide ((key.length : Int) ≤ 40))) rfl) (List.nil_sublist _) ?_
  refine ⟨?_, rfl⟩
  rw [keyOk_good (j := j) (by omega) hN]
  exact cB (by congr 1 <;> exact decide_eq_decide.2 (by omega))


theorem C_sPutKey (a : Option Addr) (c : Nat) (s : List Cell) (key val : Str) (hn : s.length ≤ 100000000000) (hk_ : key.length ≤ 1000000000000) :
    Ct Tryz.prog 134 [.slice a s.length c, str key, str val] [] (fun w_ => Sees w_ (.slice a s.length c) 2 s.length (s.flatMap encC)) (fun v A' => ∃ a' c', v = .slice a' (putKey s key val).length c' ∧ A' = [.row (.slice a' (putKey s key val).length c') 48 2 (putKey s key val).length ((putKey s key val).flatMap encC)]) := by
  refine Ct.intro Tryz.func134 rfl Tryz.ntmps134 (lb rfl) fun w0 hpre => ?_
  have hs_a : Sees w0 _ _ _ _ := hpre
  refine jC <| jF <| jA (jG (v := .slice none 0 0) rfl) <| jE <| jB <| jC <| jF ?_
  refine jH rfl (kH (ps := []) (cur := #[]) kf kh kw rfl (by kernel_rfl) (by decide) (by decide)) ?_
  rintro _ _ ⟨a_1, rfl, rfl⟩
  refine jA (jG (v := .slice a_1 0 0) rfl) <| jE <| jB <| jC <| jC <| jF <| jA (jD (v := str key) rfl) ?_
  refine jH rfl (jI [] Tryz.call92 rfl (C_sKeyOk key (by omega)) rfl (fun _ _ => trivial)) ?_
  rintro _ _ ⟨_, ⟨rfl, rfl⟩, rfl⟩
  refine jA (jp rfl) <| jA (jD (v := .bool (!(keyOk key))) rfl) ?_
  rcases Bool.eq_false_or_eq_true (keyOk key) with h_2 | h_2
  · have hkey := h_2
    refine jM rfl rfl rfl (cB (cN h_2)) (jP (jU (jD (v := str val) rfl))) ?_
    rintro _ _ ⟨rfl, rfl⟩
    refine jM rfl rfl rfl (cB (cN h_2)) (jP (jU (kF kg rfl))) ?_
    rintro _ _ ⟨rfl, rfl⟩
    refine jM rfl rfl rfl (cB (cN h_2)) (jP (jU (kR rfl rfl))) ?_
    rintro _ _ ⟨rfl, rfl⟩
    refine jA (ji (v := .bool (decide (60 < (val.length : Int)))) (cB (cN h_2)) rfl) <| jE <| jB ?_
    by_cases h_3 : 60 < (val.length : Int)
    · refine jW (cB (dT h_3)) <| jC <| jF <| jA (jD (v := .slice a_1 0 0) rfl) <| jA (jD (v := .slice a s.length c) rfl) ?_
      refine jH rfl (kU 0 (q := s.length) (news := s.flatMap encC) (n' := s.length) (cs' := s.flatMap encC) rfl kf kf ky rfl (by' := 32) rfl rfl rfl rfl rfl (fun w hw => Src.sees (hw.seeOut_ hs_a nM) (oneC _)) (by (try simp only [LE]); omega) (by (try simp only [LE]); omega) (by (try simp only [List.length_take, List.length_drop]); first | rfl | omega) rfl) ?_
      rintro _ _ ⟨a_4, c_5, rfl, rfl⟩
      refine jA (jG (v := .slice a_4 s.length c_5) rfl) <| jE <| jB <| jN <| jX <| jV (.inl rfl) rfl (jJ (v := .slice a_4 s.length c_5) rfl) (List.Sublist.refl _) ?_
      have he := (putKey_bad2 (by omega) : putKey s key val = _)
      exact ⟨_, _, by rw [he] <;> rfl, by rw [he] <;> rfl⟩
    refine jR (cB (dF h_3)) <| jT <| jB <| jC <| jF <| jA (jD (v := str val) rfl) <| jA (PO.eqlS rfl rfl) <| jA (jG (v := .bool (decide (val = []))) rfl) <| jE <| jB ?_
    refine jC <| jC <| jF <| jA (jG (v := iv 0) rfl) <| jE <| jB <| jf <| kD (fun k_ e_ L_ => ∃ j : Nat, ∃ xa : Option Addr, ∃ xc : Nat, ∃ o_ : List Cell, ∃ done : Bool, (j ≤ s.length) ∧ (o_.length ≤ 2 * j) ∧ (o_ ++ putL key val done (s.drop j) = putKey s key val) ∧ e_ 0 = .slice a s.length c ∧ e_ 1 = str key ∧ e_ 2 = str val ∧ e_ 6 = .slice none 0 0 ∧ e_ 7 = .slice xa o_.length xc ∧ e_ 8 = .bool done ∧ e_ 9 = nv j ∧ L_ = [Res.row (.slice xa o_.length xc) 48 2 o_.length (o_.flatMap encC)] ∧ k_ = s.length - j) _ ⟨0, a_1, 0, [], (decide (val = [])), by omega, (by simp), (putL_put hkey (by omega)), rfl, rfl, rfl, rfl, rfl, rfl, rfl, rfl, rfl⟩ ?_
    rintro _ e_6 _ ⟨j, xa, xc, o_, done, hj, hl, hR, he_7, he_8, he_9, he_10, he_11, he_12, he_13, rfl, rfl⟩
    refine jC <| jC <| jF <| jA (jD (v := nv j) he_13) <| jA (jD (v := .slice a s.length c) he_7) <| jA (jr kf rfl) <| jA (jl rfl rfl) <| jE <| jB ?_
    by_cases h_14 : ((j : Nat) : Int) < ((s.length : Nat) : Int)
    · have hlt : j < s.length := by omega
      refine jW (cB (dT h_14)) <| jT <| jB <| jC <| jf <| jC <| jC <| jF <| jA (jD (v := .bool done) he_12) <| jA (jp rfl) ?_
      refine jA (jD (v := .bool (!done)) rfl) ?_
      rcases Bool.eq_false_or_eq_true (done) with h_15 | h_15
      · have hd := h_15
        refine jS (b := false) rfl rfl rfl (cB (cN h_15)) <| jS (b := false) rfl rfl rfl (cB (cN h_15)) <| jS (b := false) rfl rfl rfl (cB (cN h_15)) <| jS (b := false) rfl rfl rfl (cB (cN h_15)) <| jS (b := false) rfl rfl rfl (cB (cN h_15)) <| jS (b := false) rfl rfl rfl (cB (cN h_15)) <| jS (b := false) rfl rfl rfl (cB (cN h_15)) <| jA (ji (v := .bool false) (cB (cN h_15)) rfl) <| jE <| jB ?_
        refine jR (cB rfl) <| jT <| jB <| jC <| jF <| jA (jD (v := .slice a s.length c) he_7) <| jA (jD (v := nv j) he_13) ?_
        obtain ⟨hr_16, hr_16b, -⟩ := sees_some hs_a (by omega)
        refine jA (jk (i := j) kf kh hr_16 hr_16b rfl rfl (by omega)) <| jA (kL fo48_0 hr_16 rfl) <| jK (kY (v := str ((s.getD j c0).1)) hs_a nM rfl ki (atC1 (by omega))) <| jA (jD (v := str key) he_8) <| jA (PO.neqS rfl rfl) <| jE <| jB ?_
        by_cases h_17 : ((s.getD j c0).1) = key
        · have hk := h_17
          refine jR (cB (cN (dT h_17))) <| jT <| jm <| jB <| jF <| jA (jD (v := nv j) he_13) <| jA (jc (c := ((j + 1 : Nat) : Int)) rfl rfl (wr (by omega))) <| jA (jG (v := iv ((j + 1 : Nat) : Int)) rfl) <| jE <| kB [0] (A := [Res.row (.slice xa o_.length xc) 48 2 o_.length (o_.flatMap encC)]) rfl ?_
          refine jq (s.length - (j + 1)) (by omega) ⟨j + 1, xa, xc, o_, done, by omega, (by (try simp only [List.length_append, List.length_cons, List.length_nil]); omega), (by rw [putL_step hlt] at hR; simp only [hd, hk, Bool.not_true, Bool.not_false, Bool.true_and, Bool.false_and, Bool.or_true, Bool.true_or, Bool.or_false, Bool.false_or, if_true, if_false, Bool.false_eq_true, List.nil_append, List.append_nil, List.append_assoc] at hR ⊢; exact hR), he_7, he_8, he_9, he_10, he_11, he_12, rfl, rfl, rfl⟩
        have hk := h_17
        refine jW (cB (cN (dF h_17))) <| jF <| jA (jD (v := .slice xa o_.length xc) he_11) <| jA (jD (v := .slice a s.length c) he_7) <| jA (jD (v := nv j) he_13) <| jA (jk (i := j) kf kh hr_16 hr_16b rfl rfl (by omega)) <| jK (kX (vs := [str ((s.getD j c0).1), str ((s.getD j c0).2)]) hs_a nM rfl gG kh (atC (by omega)) rfl (by decide)) ?_
        refine jH rfl (kH (ps := [(0, .agg #[str ((s.getD j c0).1), str ((s.getD j c0).2)])]) (cur := #[str ((s.getD j c0).1), str ((s.getD j c0).2)]) kf kh kw rfl (by kernel_rfl) (by decide) (by decide)) ?_
        rintro _ _ ⟨a_18, rfl, rfl⟩
        refine jH rfl (kU 1 (q := 1) (news := ([((s.getD j c0).1, (s.getD j c0).2)] : List Cell).flatMap encC) (n' := (o_ ++ ([((s.getD j c0).1, (s.getD j c0).2)] : List Cell)).length) (cs' := (o_ ++ ([((s.getD j c0).1, (s.getD j c0).2)] : List Cell)).flatMap encC) rfl kf kf ky rfl (by' := 32) rfl rfl rfl rfl rfl (fun w hw => Src.sees (hw.see (i := 0) rfl) (oneC _)) (by (try simp only [LE]); omega) (by (try simp only [LE]); omega) (by simp only [List.length_append, List.length_take, List.length_drop, List.length_cons, List.length_nil] <;> first | rfl | omega) (by simp only [List.flatMap_append])) ?_
        rintro _ _ ⟨a_19, c_20, rfl, rfl⟩
        refine jA (jG (v := .slice a_19 ((o_ ++ ([((s.getD j c0).1, (s.getD j c0).2)] : List Cell)).length) c_20) rfl) <| jE <| jm <| jB <| jF <| jA (jD (v := nv j) he_13) <| jA (jc (c := ((j + 1 : Nat) : Int)) rfl rfl (wr (by omega))) <| jA (jG (v := iv ((j + 1 : Nat) : Int)) rfl) <| jE <| kB [1] (A := [Res.row (.slice a_19 ((o_ ++ ([((s.getD j c0).1, (s.getD j c0).2)] : List Cell)).length) c_20) 48 2 ((o_ ++ ([((s.getD j c0).1, (s.getD j c0).2)] : List Cell)).length) ((o_ ++ ([((s.getD j c0).1, (s.getD j c0).2)] : List Cell)).flatMap encC)]) rfl ?_
        refine jq (s.length - (j + 1)) (by omega) ⟨j + 1, a_19, c_20, (o_ ++ ([((s.getD j c0).1, (s.getD j c0).2)] : List Cell)), done, by omega, (by (try simp only [List.length_append, List.length_cons, List.length_nil]); omega), (by rw [putL_step hlt] at hR; simp only [hd, hk, Bool.not_true, Bool.not_false, Bool.true_and, Bool.false_and, Bool.or_true, Bool.true_or, Bool.or_false, Bool.false_or, if_true, if_false, Bool.false_eq_true, List.nil_append, List.append_nil, List.append_assoc] at hR ⊢; exact hR), he_7, he_8, he_9, he_10, rfl, he_12, rfl, rfl, rfl⟩
      have hd := h_15
      refine jM rfl rfl rfl (cB (cN h_15)) (jP (jU (jD (v := .slice a s.length c) he_7))) ?_
      rintro _ _ ⟨rfl, rfl⟩
      refine jM rfl rfl rfl (cB (cN h_15)) (jP (jU (jD (v := nv j) he_13))) ?_
      rintro _ _ ⟨rfl, rfl⟩
      obtain ⟨hr_21, hr_21b, -⟩ := sees_some hs_a (by omega)
      refine jM rfl rfl rfl (cB (cN h_15)) (jP (jU (jk (i := j) kf kh hr_21 hr_21b rfl rfl (by omega)))) ?_
      rintro _ _ ⟨rfl, rfl⟩
      refine jM rfl rfl rfl (cB (cN h_15)) (jP (jU (kL fo48_0 hr_21 rfl))) ?_
      rintro _ _ ⟨rfl, rfl⟩
      refine jM rfl rfl rfl (cB (cN h_15)) (jP (kY (v := str ((s.getD j c0).1)) hs_a nM rfl ki (atC1 (by omega)))) ?_
      rintro _ _ ⟨rfl, rfl⟩
      refine jM rfl rfl rfl (cB (cN h_15)) (jP (jU (jD (v := str key) he_8))) ?_
      rintro _ _ ⟨rfl, rfl⟩
      refine jM rfl rfl rfl (cB (cN h_15)) (jP (jU (PO.gtrS rfl rfl))) ?_
      rintro _ _ ⟨rfl, rfl⟩
      refine jA (jh (v := .bool (!Op.bytesLess ((s.getD j c0).1) key && !decide (((s.getD j c0).1) = key))) (cB (cN h_15)) rfl) <| jE <| jB ?_
      rcases Bool.eq_false_or_eq_true (!Op.bytesLess ((s.getD j c0).1) key && !decide (((s.getD j c0).1) = key)) with h_22 | h_22
      · have h_22d := h_22
        simp only [Bool.and_eq_true, Bool.and_eq_false_iff, decide_eq_true_eq, decide_eq_false_iff_not] at h_22d
        have hg : gtrB (s.getD j c0).1 key = true := h_22
        refine jW (cB h_22) <| jC <| jF <| jA (jD (v := .slice xa o_.length xc) he_11) <| jA (jD (v := str key) he_8) <| jA (jD (v := str val) he_9) <| jA (kW (ps := [(0, str key), (1, str val)]) (cs := [str key, str val]) rfl (by kernel_rfl)) ?_
        refine jH rfl (kH (ps := [(0, .agg #[str key, str val])]) (cur := #[str key, str val]) kf kh kw rfl (by kernel_rfl) (by decide) (by decide)) ?_
        rintro _ _ ⟨a_23, rfl, rfl⟩
        refine jH rfl (kU 1 (q := 1) (news := ([(key, val)] : List Cell).flatMap encC) (n' := (o_ ++ ([(key, val)] : List Cell)).length) (cs' := (o_ ++ ([(key, val)] : List Cell)).flatMap encC) rfl kf kf ky rfl (by' := 32) rfl rfl rfl rfl rfl (fun w hw => Src.sees (hw.see (i := 0) rfl) (oneC _)) (by (try simp only [LE]); omega) (by (try simp only [LE]); omega) (by simp only [List.length_append, List.length_take, List.length_drop, List.length_cons, List.length_nil] <;> first | rfl | omega) (by simp only [List.flatMap_append])) ?_
        rintro _ _ ⟨a_24, c_25, rfl, rfl⟩
        refine jA (jG (v := .slice a_24 ((o_ ++ ([(key, val)] : List Cell)).length) c_25) rfl) <| jE <| jB <| jF <| jA (jG (v := .bool true) rfl) <| jE <| jB <| jC <| jF <| jA (jD (v := .slice a s.length c) he_7) ?_
        refine jA (jD (v := nv j) he_13) <| jA (jk (i := j) kf kh hr_21 hr_21b rfl rfl (by omega)) <| jA (kL fo48_0 hr_21 rfl) <| jK (kY (v := str ((s.getD j c0).1)) hs_a nM rfl ki (atC1 (by omega))) <| jA (jD (v := str key) he_8) <| jA (PO.neqS rfl rfl) <| jE <| jB ?_
        by_cases h_26 : ((s.getD j c0).1) = key
        · have hk := h_26
          have hg2 : gtrB key key = true := hk ▸ hg
          refine jR (cB (cN (dT h_26))) <| jT <| jm <| jB <| jF <| jA (jD (v := nv j) he_13) <| jA (jc (c := ((j + 1 : Nat) : Int)) rfl rfl (wr (by omega))) <| jA (jG (v := iv ((j + 1 : Nat) : Int)) rfl) <| jE <| kB [1] (A := [Res.row (.slice a_24 ((o_ ++ ([(key, val)] : List Cell)).length) c_25) 48 2 ((o_ ++ ([(key, val)] : List Cell)).length) ((o_ ++ ([(key, val)] : List Cell)).flatMap encC)]) rfl ?_
          refine jq (s.length - (j + 1)) (by omega) ⟨j + 1, a_24, c_25, (o_ ++ ([(key, val)] : List Cell)), true, by omega, (by (try simp only [List.length_append, List.length_cons, List.length_nil]); omega), (by rw [putL_step hlt] at hR; simp only [hd, hg, hg2, hk, Bool.not_true, Bool.not_false, Bool.true_and, Bool.false_and, Bool.or_true, Bool.true_or, Bool.or_false, Bool.false_or, if_true, if_false, Bool.false_eq_true, List.nil_append, List.append_nil, List.append_assoc] at hR ⊢; exact hR), he_7, he_8, he_9, he_10, rfl, rfl, rfl, rfl, rfl⟩
        have hk := h_26
        refine jW (cB (cN (dF h_26))) <| jF <| jA (jD (v := .slice a_24 ((o_ ++ ([(key, val)] : List Cell)).length) c_25) rfl) <| jA (jD (v := .slice a s.length c) he_7) <| jA (jD (v := nv j) he_13) <| jA (jk (i := j) kf kh hr_21 hr_21b rfl rfl (by omega)) <| jK (kX (vs := [str ((s.getD j c0).1), str ((s.getD j c0).2)]) hs_a nM rfl gG kh (atC (by omega)) rfl (by decide)) ?_
        refine jH rfl (kH (ps := [(0, .agg #[str ((s.getD j c0).1), str ((s.getD j c0).2)])]) (cur := #[str ((s.getD j c0).1), str ((s.getD j c0).2)]) kf kh kw rfl (by kernel_rfl) (by decide) (by decide)) ?_
        rintro _ _ ⟨a_27, rfl, rfl⟩
        refine jH rfl (kU 2 (q := 1) (news := ([((s.getD j c0).1, (s.getD j c0).2)] : List Cell).flatMap encC) (n' := ((o_ ++ ([(key, val)] : List Cell)) ++ ([((s.getD j c0).1, (s.getD j c0).2)] : List Cell)).length) (cs' := ((o_ ++ ([(key, val)] : List Cell)) ++ ([((s.getD j c0).1, (s.getD j c0).2)] : List Cell)).flatMap encC) rfl kf kf ky rfl (by' := 32) rfl rfl rfl rfl rfl (fun w hw => Src.sees (hw.see (i := 0) rfl) (oneC _)) (by (try simp only [LE]); omega) (by (try simp only [LE]); omega) (by simp only [List.length_append, List.length_take, List.length_drop, List.length_cons, List.length_nil] <;> first | rfl | omega) (by simp only [List.flatMap_append])) ?_
        rintro _ _ ⟨a_28, c_29, rfl, rfl⟩
        refine jA (jG (v := .slice a_28 (((o_ ++ ([(key, val)] : List Cell)) ++ ([((s.getD j c0).1, (s.getD j c0).2)] : List Cell)).length) c_29) rfl) <| jE <| jm <| jB <| jF <| jA (jD (v := nv j) he_13) <| jA (jc (c := ((j + 1 : Nat) : Int)) rfl rfl (wr (by omega))) <| jA (jG (v := iv ((j + 1 : Nat) : Int)) rfl) <| jE <| kB [2] (A := [Res.row (.slice a_28 (((o_ ++ ([(key, val)] : List Cell)) ++ ([((s.getD j c0).1, (s.getD j c0).2)] : List Cell)).length) c_29) 48 2 (((o_ ++ ([(key, val)] : List Cell)) ++ ([((s.getD j c0).1, (s.getD j c0).2)] : List Cell)).length) (((o_ ++ ([(key, val)] : List Cell)) ++ ([((s.getD j c0).1, (s.getD j c0).2)] : List Cell)).flatMap encC)]) rfl ?_
        refine jq (s.length - (j + 1)) (by omega) ⟨j + 1, a_28, c_29, ((o_ ++ ([(key, val)] : List Cell)) ++ ([((s.getD j c0).1, (s.getD j c0).2)] : List Cell)), true, by omega, (by (try simp only [List.length_append, List.length_cons, List.length_nil]); omega), (by rw [putL_step hlt] at hR; simp only [hd, hg, hk, Bool.not_true, Bool.not_false, Bool.true_and, Bool.false_and, Bool.or_true, Bool.true_or, Bool.or_false, Bool.false_or, if_true, if_false, Bool.false_eq_true, List.nil_append, List.append_nil, List.append_assoc] at hR ⊢; exact hR), he_7, he_8, he_9, he_10, rfl, rfl, rfl, rfl, rfl⟩
      have h_22d := h_22
      simp only [Bool.and_eq_true, Bool.and_eq_false_iff, decide_eq_true_eq, decide_eq_false_iff_not] at h_22d
      have hg : gtrB (s.getD j c0).1 key = false := h_22
      refine jR (cB h_22) <| jT <| jB <| jC <| jF <| jA (jD (v := .slice a s.length c) he_7) <| jA (jD (v := nv j) he_13) <| jA (jk (i := j) kf kh hr_21 hr_21b rfl rfl (by omega)) <| jA (kL fo48_0 hr_21 rfl) <| jK (kY (v := str ((s.getD j c0).1)) hs_a nM rfl ki (atC1 (by omega))) ?_
      refine jA (jD (v := str key) he_8) <| jA (PO.neqS rfl rfl) <| jE <| jB ?_
      by_cases h_30 : ((s.getD j c0).1) = key
      · have hk := h_30
        have hg2 : gtrB key key = false := hk ▸ hg
        refine jR (cB (cN (dT h_30))) <| jT <| jm <| jB <| jF <| jA (jD (v := nv j) he_13) <| jA (jc (c := ((j + 1 : Nat) : Int)) rfl rfl (wr (by omega))) <| jA (jG (v := iv ((j + 1 : Nat) : Int)) rfl) <| jE <| kB [0] (A := [Res.row (.slice xa o_.length xc) 48 2 o_.length (o_.flatMap encC)]) rfl ?_
        refine jq (s.length - (j + 1)) (by omega) ⟨j + 1, xa, xc, o_, done, by omega, (by (try simp only [List.length_append, List.length_cons, List.length_nil]); omega), (by rw [putL_step hlt] at hR; simp only [hd, hg, hg2, hk, Bool.not_true, Bool.not_false, Bool.true_and, Bool.false_and, Bool.or_true, Bool.true_or, Bool.or_false, Bool.false_or, if_true, if_false, Bool.false_eq_true, List.nil_append, List.append_nil, List.append_assoc] at hR ⊢; exact hR), he_7, he_8, he_9, he_10, he_11, he_12, rfl, rfl, rfl⟩
      have hk := h_30
      refine jW (cB (cN (dF h_30))) <| jF <| jA (jD (v := .slice xa o_.length xc) he_11) <| jA (jD (v := .slice a s.length c) he_7) <| jA (jD (v := nv j) he_13) <| jA (jk (i := j) kf kh hr_21 hr_21b rfl rfl (by omega)) <| jK (kX (vs := [str ((s.getD j c0).1), str ((s.getD j c0).2)]) hs_a nM rfl gG kh (atC (by omega)) rfl (by decide)) ?_
      refine jH rfl (kH (ps := [(0, .agg #[str ((s.getD j c0).1), str ((s.getD j c0).2)])]) (cur := #[str ((s.getD j c0).1), str ((s.getD j c0).2)]) kf kh kw rfl (by kernel_rfl) (by decide) (by decide)) ?_
      rintro _ _ ⟨a_31, rfl, rfl⟩
      refine jH rfl (kU 1 (q := 1) (news := ([((s.getD j c0).1, (s.getD j c0).2)] : List Cell).flatMap encC) (n' := (o_ ++ ([((s.getD j c0).1, (s.getD j c0).2)] : List Cell)).length) (cs' := (o_ ++ ([((s.getD j c0).1, (s.getD j c0).2)] : List Cell)).flatMap encC) rfl kf kf ky rfl (by' := 32) rfl rfl rfl rfl rfl (fun w hw => Src.sees (hw.see (i := 0) rfl) (oneC _)) (by (try simp only [LE]); omega) (by (try simp only [LE]); omega) (by simp only [List.length_append, List.length_take, List.length_drop, List.length_cons, List.length_nil] <;> first | rfl | omega) (by simp only [List.flatMap_append])) ?_
      rintro _ _ ⟨a_32, c_33, rfl, rfl⟩
      refine jA (jG (v := .slice a_32 ((o_ ++ ([((s.getD j c0).1, (s.getD j c0).2)] : List Cell)).length) c_33) rfl) <| jE <| jm <| jB <| jF <| jA (jD (v := nv j) he_13) <| jA (jc (c := ((j + 1 : Nat) : Int)) rfl rfl (wr (by omega))) <| jA (jG (v := iv ((j + 1 : Nat) : Int)) rfl) <| jE <| kB [1] (A := [Res.row (.slice a_32 ((o_ ++ ([((s.getD j c0).1, (s.getD j c0).2)] : List Cell)).length) c_33) 48 2 ((o_ ++ ([((s.getD j c0).1, (s.getD j c0).2)] : List Cell)).length) ((o_ ++ ([((s.getD j c0).1, (s.getD j c0).2)] : List Cell)).flatMap encC)]) rfl ?_
      refine jq (s.length - (j + 1)) (by omega) ⟨j + 1, a_32, c_33, (o_ ++ ([((s.getD j c0).1, (s.getD j c0).2)] : List Cell)), done, by omega, (by (try simp only [List.length_append, List.length_cons, List.length_nil]); omega), (by rw [putL_step hlt] at hR; simp only [hd, hg, hk, Bool.not_true, Bool.not_false, Bool.true_and, Bool.false_and, Bool.or_true, Bool.true_or, Bool.or_false, Bool.false_or, if_true, if_false, Bool.false_eq_true, List.nil_append, List.append_nil, List.append_assoc] at hR ⊢; exact hR), he_7, he_8, he_9, he_10, rfl, he_12, rfl, rfl, rfl⟩
    refine jR (cB (dF h_14)) <| jx <| jb <| jb <| jy <| jB <| jC <| jC <| jF <| jA (jD (v := .bool done) he_12) ?_
    refine jA (jp rfl) <| jE <| jB ?_
    rcases Bool.eq_false_or_eq_true (done) with h_34 | h_34
    · have hd := h_34
      refine jR (cB (cN h_34)) <| jT <| jB <| jC <| jF <| jA (jD (v := .slice xa o_.length xc) he_11) <| jA (jG (v := .slice xa o_.length xc) rfl) <| jE <| jB <| jN ?_
      refine jV (.inl rfl) rfl (jJ (v := .slice xa o_.length xc) rfl) (List.Sublist.refl _) ?_
      rw [List.drop_of_length_le (by omega), putL] at hR
      simp only [hd, Bool.not_true, Bool.not_false, Bool.true_and, Bool.false_and, Bool.or_true, Bool.true_or, Bool.or_false, Bool.false_or, if_true, if_false, Bool.false_eq_true, List.nil_append, List.append_nil, List.append_assoc] at hR
      exact ⟨_, _, by rw [← hR] <;> rfl, by rw [← hR] <;> rfl⟩
    have hd := h_34
    refine jW (cB (cN h_34)) <| jF <| jA (jD (v := .slice xa o_.length xc) he_11) <| jA (jD (v := str key) he_8) <| jA (jD (v := str val) he_9) <| jA (kW (ps := [(0, str key), (1, str val)]) (cs := [str key, str val]) rfl (by kernel_rfl)) ?_
    refine jH rfl (kH (ps := [(0, .agg #[str key, str val])]) (cur := #[str key, str val]) kf kh kw rfl (by kernel_rfl) (by decide) (by decide)) ?_
    rintro _ _ ⟨a_35, rfl, rfl⟩
    refine jH rfl (kU 1 (q := 1) (news := ([(key, val)] : List Cell).flatMap encC) (n' := (o_ ++ ([(key, val)] : List Cell)).length) (cs' := (o_ ++ ([(key, val)] : List Cell)).flatMap encC) rfl kf kf ky rfl (by' := 32) rfl rfl rfl rfl rfl (fun w hw => Src.sees (hw.see (i := 0) rfl) (oneC _)) (by (try simp only [LE]); omega) (by (try simp only [LE]); omega) (by simp only [List.length_append, List.length_take, List.length_drop, List.length_cons, List.length_nil] <;> first | rfl | omega) (by simp only [List.flatMap_append])) ?_
    rintro _ _ ⟨a_36, c_37, rfl, rfl⟩
    refine jA (jG (v := .slice a_36 ((o_ ++ ([(key, val)] : List Cell)).length) c_37) rfl) <| jE <| jB <| jC <| jF <| jA (jD (v := .slice a_36 ((o_ ++ ([(key, val)] : List Cell)).length) c_37) rfl) <| jA (jG (v := .slice a_36 ((o_ ++ ([(key, val)] : List Cell)).length) c_37) rfl) <| jE <| jB <| jN ?_
    refine kM (pick_perm [1] (A := [Res.row (.slice a_36 ((o_ ++ ([(key, val)] : List Cell)).length) c_37) 48 2 ((o_ ++ ([(key, val)] : List Cell)).length) ((o_ ++ ([(key, val)] : List Cell)).flatMap encC)]) (F := [Res.row (.slice a_35 1 1) 48 2 1 (([(key, val)] : List Cell).flatMap encC)]) rfl).symm <| jV (.inl rfl) rfl (jJ (v := .slice a_36 ((o_ ++ ([(key, val)] : List Cell)).length) c_37) rfl) (tS 1 _) ?_
    rw [List.drop_of_length_le (by omega), putL] at hR
    simp only [hd, Bool.not_true, Bool.not_false, Bool.true_and, Bool.false_and, Bool.or_true, Bool.true_or, Bool.or_false, Bool.false_or, if_true, if_false, Bool.false_eq_true, List.nil_append, List.append_nil, List.append_assoc] at hR
    exact ⟨_, _, by rw [← hR] <;> rfl, by rw [← hR] <;> rfl⟩
  refine jS (b := true) rfl rfl rfl (cB (cN h_2)) <| jS (b := true) rfl rfl rfl (cB (cN h_2)) <| jS (b := true) rfl rfl rfl (cB (cN h_2)) <| jA (jh (v := .bool true) (cB (cN h_2)) rfl) <| jE <| jB <| jW (cB rfl) <| jC <| jF <| jA (jD (v := .slice a_1 0 0) rfl) ?_
  refine jA (jD (v := .slice a s.length c) rfl) ?_
  refine jH rfl (kU 0 (q := s.length) (news := s.flatMap encC) (n' := s.length) (cs' := s.flatMap encC) rfl kf kf ky rfl (by' := 32) rfl rfl rfl rfl rfl (fun w hw => Src.sees (hw.seeOut_ hs_a nM) (oneC _)) (by (try simp only [LE]); omega) (by (try simp only [LE]); omega) (by (try simp only [List.length_take, List.length_drop]); first | rfl | omega) rfl) ?_
  rintro _ _ ⟨a_38, c_39, rfl, rfl⟩
  refine jA (jG (v := .slice a_38 s.length c_39) rfl) <| jE <| jB <| jN <| jX <| jV (.inl rfl) rfl (jJ (v := .slice a_38 s.length c_39) rfl) (List.Sublist.refl _) ?_
  have he := (putKey_bad1 h_2 : putKey s key val = _)
  exact ⟨_, _, by rw [he] <;> rfl, by rw [he] <;> rfl⟩



theorem C_figure (d : Nat) (hd : d < 10) :
    Ct Tryz.prog 133 [.int .i64 ((d : Nat) : Int)] [] (fun _ => True) (fun v A' => v = .int .u8 ((48 + d : Nat) : Int) ∧ A' = []) := by
  refine Ct.intro Tryz.func133 rfl Tryz.ntmps133 (lb rfl) fun w0 hpre => ?_
  refine jC <| jF <| jA (jG (v := .int .u8 0) rfl) <| jE <| jB <| jC <| jC <| jF <| jA (jD (v := nv d) rfl) <| jA (jl rfl rfl) ?_
  refine jE <| jB ?_
  by_cases h_1 : ((d : Nat) : Int) < 10
  · refine jW (cB (dT h_1)) <| jC <| jF <| jA (jD (v := nv d) rfl) <| jA (jc (c := ((48 + d : Nat) : Int)) rfl rfl (wr (by omega))) <| jA (PO.convI (c := ((48 + d : Nat) : Int)) gC kv rfl (wr8 (by omega))) <| jA (jG (v := .int .u8 ((48 + d : Nat) : Int)) rfl) <| jE <| jB <| jN ?_
    refine jX <| jV (.inl rfl) rfl (jJ (v := .int .u8 ((48 + d : Nat) : Int)) rfl) (List.nil_sublist _) ?_
    exact ⟨rfl, rfl⟩
  exfalso; omega

theorem C_sDecN (k : Nat) (h1 : k ≤ 1000000000000000000) :
    Ct Tryz.prog 91 [.int .i64 ((k : Nat) : Int)] [] (fun _ => True) (fun v A' => v = str (dec ((k : Nat) : Int)) ∧ A' = []) := by
  refine Ct.intro Tryz.func91 rfl Tryz.ntmps91 (lb rfl) fun w0 hpre => ?_
  refine jC <| jF <| jA (jG (v := str []) rfl) <| jE <| jB <| jC <| jC <| jF <| jA (jD (v := nv k) rfl) <| jA (kO rfl rfl) ?_
  refine jE <| jB ?_
  by_cases h_1 : ((k : Nat) : Int) = 0
  · refine jW (cB (dT h_1)) <| jC <| jF <| jA (jG (v := str [48]) rfl) <| jE <| jB <| jN <| jX <| jV (.inl rfl) rfl (jJ (v := str [48]) rfl) (List.nil_sublist _) ?_
    refine ⟨?_, rfl⟩
    rw [show ((k : Nat) : Int) = 0 by omega, dec_zero]
  refine jR (cB (dF h_1)) <| jT <| jB <| jC <| jF <| jA (jD (v := nv k) rfl) <| jA (jl rfl rfl) <| jA (jG (v := .bool (decide (((k : Nat) : Int) < 0))) rfl) <| jE <| jB ?_
  refine jC <| jF <| jA (jG (v := str []) rfl) <| jE <| jB <| jC <| jf <| kD (fun k_ e_ L_ => ∃ k1 : Nat, ∃ o_ : Str, (k1 ≤ k) ∧ (o_.length + k1 ≤ k) ∧ (mtAcc k1 o_ = mtAcc k []) ∧ e_ 0 = nv k1 ∧ e_ 2 = str [] ∧ e_ 3 = .bool (decide (((k : Nat) : Int) < 0)) ∧ e_ 4 = str o_ ∧ L_ = [] ∧ k_ = k1 + 1) _ ⟨k, [], by omega, (by simp), rfl, rfl, rfl, rfl, rfl, rfl, rfl⟩ ?_
  rintro _ e_2 _ ⟨k1, o_, hk, hl, hR, he_3, he_4, he_5, he_6, rfl, rfl⟩
  refine jC <| jC <| jF <| jA (jD (v := nv k1) he_3) <| jA (kS rfl rfl) <| jE <| jB ?_
  by_cases h_7 : ((k1 : Nat) : Int) = 0
  · refine jR (cB (cN (dT h_7))) <| jx <| jb <| jb <| jy <| jB <| jC <| jC <| jF <| jA (jD (v := .bool (decide (((k : Nat) : Int) < 0))) he_5) ?_
    refine jE <| jB ?_
    by_cases h_8 : ((k : Nat) : Int) < 0
    · exfalso; omega
    refine jR (cB (dF h_8)) <| jT <| jB <| jC <| jF <| jA (jD (v := str o_) he_6) <| jA (jG (v := str o_) rfl) <| jE <| jB <| jN ?_
    refine jV (.inl rfl) rfl (jJ (v := str o_) rfl) (List.nil_sublist _) ?_
    refine ⟨?_, rfl⟩
    rw [dec_nat (by omega), ← hR, mtAcc_zero (by omega)]
  refine jW (cB (cN (dF h_7))) <| jT <| jB <| jf <| jC <| jF <| jA (jD (v := nv k1) he_3) <| jA (PO.remN (c := ((k1 % 10 : Nat) : Int)) rfl rfl (by omega) (by omega) (by omega)) <| jA (jG (v := iv ((k1 % 10 : Nat) : Int)) rfl) <| jE ?_
  refine jB <| jC <| jC <| jF <| jA (jD (v := iv ((k1 % 10 : Nat) : Int)) rfl) <| jA (jl rfl rfl) <| jE <| jB ?_
  by_cases h_9 : ((k1 % 10 : Nat) : Int) < 0
  · exfalso; omega
  refine jR (cB (dF h_9)) <| jT <| jB <| jC <| jF <| jA (jD (v := iv ((k1 % 10 : Nat) : Int)) rfl) ?_
  refine jH rfl (jI [] Tryz.call133 rfl (C_figure (k1 % 10) (by omega)) rfl (fun _ _ => trivial)) ?_
  rintro _ _ ⟨_, ⟨rfl, rfl⟩, rfl⟩
  refine jH rfl (kH (ps := [(0, .int .u8 ((48 + (k1 % 10) : Nat) : Int))]) (cur := #[.int .u8 ((48 + (k1 % 10) : Nat) : Int)]) kr gH gK rfl (by kernel_rfl) (by decide) (by decide)) ?_
  rintro _ _ ⟨a_10, rfl, rfl⟩
  refine jK (LO.toStr 0 [UInt8.ofNat (48 + (k1 % 10))] rfl kr kv kg rfl (by rw [List.map_cons, List.map_nil, encB_of _ (by omega)])) <| jA (jD (v := str o_) he_6) <| jA (kc rfl rfl (by (try simp only [List.length_append, List.length_cons, List.length_nil, List.length_drop, List.length_take]); omega)) <| jA (jG (v := str ([UInt8.ofNat (48 + (k1 % 10))] ++ o_)) rfl) <| jE <| jB <| jF <| jA (jD (v := nv k1) he_3) <| jA (PO.quoN (c := ((k1 / 10 : Nat) : Int)) rfl rfl (by omega) (by omega) (by omega) (wr (by omega))) <| jA (jG (v := iv ((k1 / 10 : Nat) : Int)) rfl) ?_
  refine jE <| jm <| kB [] (A := []) rfl ?_
  refine jq (k1 / 10 + 1) (by omega) ⟨(k1 / 10), [UInt8.ofNat (48 + (k1 % 10))] ++ o_, by omega, (by simp only [List.length_append, List.length_cons, List.length_nil]; omega), (by rw [mtAcc_step (by omega)]; exact hR), rfl, he_4, he_5, rfl, rfl, rfl⟩

theorem C_sDec (n : Int) (h0 : 0 ≤ n) (h1 : n ≤ 1000000000000000000) : Ct Tryz.prog 91 [.int .i64 n] [] (fun _ => True) (fun v A' => v = str (dec n) ∧ A' = []) := by
  have := C_sDecN n.toNat (by omega)
  rw [Int.toNat_of_nonneg h0] at this
  exact this

end Go.Proofs.YtjncpgcccgdeiaaGreatDoor

set_option linter.unusedSimpArgs false
set_option linter.unusedVariables false
set_option linter.unnecessarySimpa false
namespace Go.Proofs.YtjncpgcccgdeiaaGreatDoor
open Go Go.RowKit
attribute [local irreducible] JL JC JQ JO LO PO JA JX Ct

theorem C_sReadDec (t : Str) (ht : t.length ≤ 281474976710656) :
    Ct Tryz.prog 106 [str t] [] (fun _ => True) (fun v A' => v = .tuple #[.int .i64 (readDec t).1, .bool (readDec t).2] ∧ A' = []) := by
  refine Ct.intro Tryz.func106 rfl Tryz.ntmps106 (lb rfl) fun w0 hpre => ?_
  refine jC <| jF <| jA (jG (v := iv 0) rfl) <| jA (jG (v := .bool false) rfl) <| jE <| jB <| jC <| jC <| jF <| jA (jD (v := str t) rfl) ?_
  refine jA (kF kg rfl) <| jA (kR rfl rfl) <| jE <| jB ?_
  by_cases h_1 : 10 < (t.length : Int)
  · refine jW (cB (dT h_1)) <| jC <| jF <| jA (jG (v := iv 0) rfl) <| jA (jG (v := .bool false) rfl) <| jE <| jB <| jN <| jX <| kC (.inl rfl) rfl (jJ (v := iv 0) rfl) (jJ (v := .bool false) rfl) (List.nil_sublist _) ?_
    refine ⟨?_, rfl⟩
    rw [readDec_long (by omega)]
  refine jR (cB (dF h_1)) <| jT <| jB <| jC <| jF <| jA (jG (v := iv 0) rfl) <| jE <| jB <| jC <| jC ?_
  refine jF <| jA (jG (v := iv 0) rfl) <| jE <| jB <| jf <| kD (fun k_ e_ L_ => ∃ j : Nat, ∃ n1 : Int, (j ≤ t.length) ∧ (0 ≤ n1) ∧ (n1 < ((10 ^ j : Nat) : Int)) ∧ (figs n1 (t.drop j) = figs 0 t) ∧ e_ 0 = str t ∧ e_ 4 = iv n1 ∧ e_ 5 = nv j ∧ L_ = [] ∧ k_ = t.length - j) _ ⟨0, 0, by omega, by omega, (by decide), rfl, rfl, rfl, rfl, rfl, rfl⟩ ?_
  rintro _ e_2 _ ⟨j, n1, hj, h0, hb, hR, he_3, he_4, he_5, rfl, rfl⟩
  refine jC <| jC <| jF <| jA (jD (v := nv j) he_5) <| jA (jD (v := str t) he_3) <| jA (kF kg rfl) <| jA (jl rfl rfl) <| jE <| jB ?_
  by_cases h_6 : ((j : Nat) : Int) < (t.length : Int)
  · have hlt : j < t.length := by omega
    have hpj : 10 ^ j ≤ 1000000000 := Nat.le_trans (Nat.pow_le_pow_right (by omega) (show j ≤ 9 by omega)) (by decide)
    refine jW (cB (dT h_6)) <| jT <| jB <| jC <| jf <| jC <| jC <| jF <| jA (jD (v := str t) he_3) <| jA (jD (v := nv j) he_5) ?_
    refine jA (PO.indexS (i := j) (c := t.getD j 0) kg rfl rfl (getD_some (by omega))) ?_
    have hu_7 := UInt8.toNat_lt (t.getD j 0)
    refine jA (jl rfl rfl) <| jA (jD (v := .bool (decide (((t.getD j 0).toNat : Int) < 48))) rfl) ?_
    by_cases h_8 : ((t.getD j 0).toNat : Int) < 48
    · refine jS (b := true) rfl rfl rfl (cB (dT h_8)) <| jS (b := true) rfl rfl rfl (cB (dT h_8)) <| jS (b := true) rfl rfl rfl (cB (dT h_8)) <| jS (b := true) rfl rfl rfl (cB (dT h_8)) <| jA (jh (v := .bool true) (cB (dT h_8)) rfl) <| jE <| jB <| jW (cB rfl) <| jC <| jF ?_
      refine jA (jG (v := iv 0) rfl) <| jA (jG (v := .bool false) rfl) <| jE <| jB <| jN <| jX <| jv <| jX <| jX <| jv ?_
      refine jX <| kC (.inl rfl) rfl (jJ (v := iv 0) rfl) (jJ (v := .bool false) rfl) (List.nil_sublist _) ?_
      refine ⟨?_, rfl⟩
      rw [figs_step hlt, if_neg (by omega)] at hR
      rw [readDec_figs (by omega), ← hR]
    refine jM rfl rfl rfl (cB (dF h_8)) (jP (jU (jD (v := str t) he_3))) ?_
    rintro _ _ ⟨rfl, rfl⟩
    refine jM rfl rfl rfl (cB (dF h_8)) (jP (jU (jD (v := nv j) he_5))) ?_
    rintro _ _ ⟨rfl, rfl⟩
    refine jM rfl rfl rfl (cB (dF h_8)) (jP (jU (PO.indexS (i := j) (c := t.getD j 0) kg rfl rfl (getD_some (by omega))))) ?_
    rintro _ _ ⟨rfl, rfl⟩
    have hu_9 := UInt8.toNat_lt (t.getD j 0)
    refine jM rfl rfl rfl (cB (dF h_8)) (jP (jU (kR rfl rfl))) ?_
    rintro _ _ ⟨rfl, rfl⟩
    refine jA (ji (v := .bool (decide (57 < ((t.getD j 0).toNat : Int)))) (cB (dF h_8)) rfl) <| jE <| jB ?_
    by_cases h_10 : 57 < ((t.getD j 0).toNat : Int)
    · refine jW (cB (dT h_10)) <| jC <| jF <| jA (jG (v := iv 0) rfl) <| jA (jG (v := .bool false) rfl) <| jE <| jB <| jN <| jX <| jv ?_
      refine jX <| jX <| jv <| jX <| kC (.inl rfl) rfl (jJ (v := iv 0) rfl) (jJ (v := .bool false) rfl) (List.nil_sublist _) ?_
      refine ⟨?_, rfl⟩
      rw [figs_step hlt, if_neg (by omega)] at hR
      rw [readDec_figs (by omega), ← hR]
    refine jR (cB (dF h_10)) <| jT <| jB <| jF <| jA (jD (v := iv n1) he_4) <| jA (PO.mul (c := 10 * n1) rfl rfl (wr (by omega))) <| jA (jD (v := str t) he_3) <| jA (jD (v := nv j) he_5) <| jA (PO.indexS (i := j) (c := t.getD j 0) kg rfl rfl (getD_some (by omega))) ?_
    have hu_11 := UInt8.toNat_lt (t.getD j 0)
    refine jA (PO.convI (c := ((t.getD j 0).toNat : Int)) kv gC rfl (wr (by omega))) <| jA (jc (c := (10 * n1) + ((t.getD j 0).toNat : Int)) rfl rfl (wr (by omega))) <| jA (kZ (c := ((10 * n1) + ((t.getD j 0).toNat : Int)) - 48) rfl rfl (wr (by omega))) <| jA (jG (v := iv (((10 * n1) + ((t.getD j 0).toNat : Int)) - 48)) rfl) <| jE <| jm <| jB <| jF <| jA (jD (v := nv j) he_5) <| jA (jc (c := ((j + 1 : Nat) : Int)) rfl rfl (wr (by omega))) ?_
    refine jA (jG (v := iv ((j + 1 : Nat) : Int)) rfl) <| jE ?_
    refine jq (t.length - (j + 1)) (by omega) ⟨j + 1, ((10 * n1) + ((t.getD j 0).toNat : Int)) - 48, by omega, by omega, (by rw [Nat.pow_succ]; omega), (by rw [figs_step hlt, if_pos (by omega)] at hR; exact hR), he_3, rfl, rfl, rfl, rfl⟩
  have hpj : 10 ^ j ≤ 10000000000 := Nat.le_trans (Nat.pow_le_pow_right (by omega) (show j ≤ 10 by omega)) (by decide)
  rw [List.drop_of_length_le (by omega), figs] at hR
  refine jR (cB (dF h_6)) <| jx <| jb <| jb <| jy <| jB <| jC <| jC <| jF <| jA (jD (v := iv n1) he_4) ?_
  refine jA (kR rfl rfl) <| jA (jD (v := .bool (decide (1000000000 < n1))) rfl) ?_
  by_cases h_12 : 1000000000 < n1
  · refine jS (b := true) rfl rfl rfl (cB (dT h_12)) <| jS (b := true) rfl rfl rfl (cB (dT h_12)) <| jS (b := true) rfl rfl rfl (cB (dT h_12)) <| jS (b := true) rfl rfl rfl (cB (dT h_12)) <| jA (jh (v := .bool true) (cB (dT h_12)) rfl) <| jE <| jB <| jW (cB rfl) <| jC <| jF ?_
    refine jA (jG (v := iv 0) rfl) <| jA (jG (v := .bool false) rfl) <| jE <| jB <| jN <| jX <| kC (.inl rfl) rfl (jJ (v := iv 0) rfl) (jJ (v := .bool false) rfl) (List.nil_sublist _) ?_
    refine ⟨?_, rfl⟩
    rw [readDec_figs (by omega), ← hR]
    simp only
    rw [if_neg (fun h => by simp_all <;> omega)]
  refine jM rfl rfl rfl (cB (dF h_12)) (jP (jU (jD (v := iv n1) he_4))) ?_
  rintro _ _ ⟨rfl, rfl⟩
  refine jM rfl rfl rfl (cB (dF h_12)) (jI [] Tryz.call91 rfl (C_sDec n1 (by omega) (by omega)) rfl (fun _ _ => trivial)) ?_
  rintro _ _ ⟨_, ⟨rfl, rfl⟩, rfl⟩
  refine jM rfl rfl rfl (cB (dF h_12)) (jP (jU (jD (v := str t) he_3))) ?_
  rintro _ _ ⟨rfl, rfl⟩
  refine jM rfl rfl rfl (cB (dF h_12)) (jP (jU (PO.neqS rfl rfl))) ?_
  rintro _ _ ⟨rfl, rfl⟩
  refine jA (ji (v := .bool (!(decide ((dec n1) = t)))) (cB (dF h_12)) rfl) <| jE <| jB ?_
  by_cases h_13 : (dec n1) = t
  · refine jR (cB (cN (dT h_13))) <| jT <| jB <| jC <| jF <| jA (jD (v := iv n1) he_4) <| jA (jG (v := iv n1) rfl) <| jA (jG (v := .bool true) rfl) <| jE <| jB ?_
    refine jN <| kC (.inl rfl) rfl (jJ (v := iv n1) rfl) (jJ (v := .bool true) rfl) (List.nil_sublist _) ?_
    refine ⟨?_, rfl⟩
    rw [readDec_figs (by omega), ← hR]
    simp only
    rw [if_pos (by refine ⟨?_, ?_⟩ <;> first | omega | simp_all)]
  refine jW (cB (cN (dF h_13))) <| jC <| jF <| jA (jG (v := iv 0) rfl) <| jA (jG (v := .bool false) rfl) <| jE <| jB <| jN <| jX <| kC (.inl rfl) rfl (jJ (v := iv 0) rfl) (jJ (v := .bool false) rfl) (List.nil_sublist _) ?_
  refine ⟨?_, rfl⟩
  rw [readDec_figs (by omega), ← hR]
  simp only
  rw [if_neg (fun h => by simp_all <;> omega)]







end Go.Proofs.YtjncpgcccgdeiaaGreatDoor

set_option linter.unusedSimpArgs false
set_option linter.unusedVariables false
set_option linter.unnecessarySimpa false
namespace Go.Proofs.YtjncpgcccgdeiaaGreatDoor
open Go Go.RowKit

theorem Ct.introL {P : Program} {n : Nat} {f : FuncId} {fn : Func} {c : Code} {args : List Value} {A : List Res} {Pre : World → Prop} {Post : Value → List Res → Prop}
    (hf : P.funcs[f]? = some fn) (hb : fn.body = some c) (hn : fn.ntmps = n) (hle : args.length ≤ n)
    (h : ∀ w0, Pre w0 → (∀ i ∈ idsOf A, GB ≤ i) → JC P (bodyPost P fn (Done w0 (idsOf A) Post)) n w0 (idsOf A) A c (argEnv args)) : Ct P f args A Pre Post := fun w hA hpre => by
  refine calls_of_wp hf hb ?_
  rw [hn, act_args n args hle]
  exact h w hpre hA.low w (St.start hA)
theorem St.hex {w0 w : World} {D : List Nat} {L : List Res} (hw : St w0 D L w) (hlow : ∀ i ∈ D, GB ≤ i) (h : HexOk w0) : HexOk w :=
  h.keep (hw.keep _ h.lt fun hD => by have := hlow _ hD; have := hexLow; omega)

end Go.Proofs.YtjncpgcccgdeiaaGreatDoor

set_option linter.unusedSimpArgs false
set_option linter.unusedVariables false
set_option linter.unnecessarySimpa false
namespace Go.Proofs.YtjncpgcccgdeiaaGreatDoor
open Go Go.RowKit
attribute [local irreducible] JL JC JQ JO LO PO JA JX Ct

theorem N_figure (k : Nat) (h : k < 16) :
    Ct Tryz.prog 133 [.int .i64 ((k : Nat) : Int)] [] (fun _ => True) (fun v A' => v = .int .u8 (((hexFig k).toNat : Nat) : Int) ∧ A' = []) := by
  refine Ct.intro Tryz.func133 rfl Tryz.ntmps133 (lb rfl) fun w0 hpre => ?_
  refine jC <| jF <| jA (jG (v := .int .u8 0) rfl) <| jE <| jB <| jC <| jC <| jF <| jA (jD (v := nv k) rfl) <| jA (jl rfl rfl) ?_
  refine jE <| jB ?_
  by_cases h_1 : ((k : Nat) : Int) < 10
  · refine jW (cB (dT h_1)) <| jC <| jF <| jA (jD (v := nv k) rfl) <| jA (jc (c := ((48 + k : Nat) : Int)) rfl rfl (wr (by omega))) <| jA (PO.convI (c := (((UInt8.ofNat (48 + k)).toNat : Nat) : Int)) gC kv rfl (wr8u (c := UInt8.ofNat (48 + k)) (by omega) (by rw [Int.toNat_natCast]))) <| jA (jG (v := .int .u8 (((UInt8.ofNat (48 + k)).toNat : Nat) : Int)) rfl) <| jE <| jB <| jN ?_
    refine jX <| jV (.inl rfl) rfl (jJ (v := .int .u8 (((UInt8.ofNat (48 + k)).toNat : Nat) : Int)) rfl) (List.nil_sublist _) ?_
    refine ⟨?_, rfl⟩
    exact congrArg (fun q : Nat => Value.int .u8 (q : Int)) (by first | (rw [hexFig_lo (by omega), UInt8.toNat_ofNat_of_lt' (by show _ < 256; omega)]) | (rw [hexFig_hi (by omega) (by omega), UInt8.toNat_ofNat_of_lt' (by show _ < 256; omega)]; omega))
  refine jR (cB (dF h_1)) <| jT <| jB <| jC <| jF <| jA (jD (v := nv k) rfl) <| jA (jc (c := ((97 + k : Nat) : Int)) rfl rfl (wr (by omega))) <| jA (kZ (c := ((97 + k : Nat) : Int) - 10) rfl rfl (wr (by omega))) <| jA (PO.convI (c := (((UInt8.ofNat (((97 + k : Nat) : Int) - 10).toNat).toNat : Nat) : Int)) gC kv rfl (wr8u (by omega) rfl)) <| jA (jG (v := .int .u8 (((UInt8.ofNat (((97 + k : Nat) : Int) - 10).toNat).toNat : Nat) : Int)) rfl) ?_
  refine jE <| jB <| jN <| jV (.inl rfl) rfl (jJ (v := .int .u8 (((UInt8.ofNat (((97 + k : Nat) : Int) - 10).toNat).toNat : Nat) : Int)) rfl) (List.nil_sublist _) ?_
  refine ⟨?_, rfl⟩
  exact congrArg (fun q : Nat => Value.int .u8 (q : Int)) (by first | (rw [hexFig_lo (by omega), UInt8.toNat_ofNat_of_lt' (by show _ < 256; omega)]) | (rw [hexFig_hi (by omega) (by omega), UInt8.toNat_ofNat_of_lt' (by show _ < 256; omega)]; omega))

theorem N_value (c : UInt8) :
    Ct Tryz.prog 140 [.int .u8 ((c.toNat : Nat) : Int)] [] (fun _ => True) (fun v A' => ∃ r0, hexV c = r0 ∧ (-1 ≤ r0 ∧ r0 ≤ 15) ∧ v = .int .i64 r0 ∧ A' = []) := by
  have hc8 := UInt8.toNat_lt c
  refine Ct.intro Tryz.func140 rfl Tryz.ntmps140 (lb rfl) fun w0 hpre => ?_
  refine jC <| jF <| jA (jG (v := iv 0) rfl) <| jE <| jB <| jC <| jC <| jF <| jA (jD (v := .int .u8 ((c.toNat : Nat) : Int)) rfl) <| jA (PO.geq rfl rfl) ?_
  refine jA (jD (v := .bool (decide (48 ≤ ((c.toNat : Nat) : Int)))) rfl) ?_
  by_cases h_1 : 48 ≤ ((c.toNat : Nat) : Int)
  · refine jM rfl rfl rfl (cB (dT h_1)) (jP (jU (jD (v := .int .u8 ((c.toNat : Nat) : Int)) rfl))) ?_
    rintro _ _ ⟨rfl, rfl⟩
    refine jM rfl rfl rfl (cB (dT h_1)) (jP (jU (PO.leq rfl rfl))) ?_
    rintro _ _ ⟨rfl, rfl⟩
    refine jA (jh (v := .bool (decide (((c.toNat : Nat) : Int) ≤ 57))) (cB (dT h_1)) rfl) <| jE <| jB ?_
    by_cases h_2 : ((c.toNat : Nat) : Int) ≤ 57
    · refine jW (cB (dT h_2)) <| jC <| jF <| jA (jD (v := .int .u8 ((c.toNat : Nat) : Int)) rfl) <| jA (PO.convI (c := ((c.toNat : Nat) : Int)) kv gC rfl (wr (by omega))) <| jA (kZ (c := ((c.toNat : Nat) : Int) - 48) rfl rfl (wr (by omega))) <| jA (jG (v := iv (((c.toNat : Nat) : Int) - 48)) rfl) <| jE <| jB <| jN ?_
      refine jX <| jV (.inl rfl) rfl (jJ (v := iv (((c.toNat : Nat) : Int) - 48)) rfl) (List.nil_sublist _) ?_
      refine ⟨_, ?_, ?_, rfl, rfl⟩
      · first | exact hexV_a (by omega) (by omega) | exact hexV_b (by omega) (by omega) | exact hexV_c (by omega) (by omega)
      omega
    refine jR (cB (dF h_2)) <| jT <| jB <| jC <| jC <| jF <| jA (jD (v := .int .u8 ((c.toNat : Nat) : Int)) rfl) <| jA (PO.geq rfl rfl) <| jA (jD (v := .bool (decide (97 ≤ ((c.toNat : Nat) : Int)))) rfl) ?_
    by_cases h_3 : 97 ≤ ((c.toNat : Nat) : Int)
    · refine jM rfl rfl rfl (cB (dT h_3)) (jP (jU (jD (v := .int .u8 ((c.toNat : Nat) : Int)) rfl))) ?_
      rintro _ _ ⟨rfl, rfl⟩
      refine jM rfl rfl rfl (cB (dT h_3)) (jP (jU (PO.leq rfl rfl))) ?_
      rintro _ _ ⟨rfl, rfl⟩
      refine jA (jh (v := .bool (decide (((c.toNat : Nat) : Int) ≤ 102))) (cB (dT h_3)) rfl) <| jE <| jB ?_
      by_cases h_4 : ((c.toNat : Nat) : Int) ≤ 102
      · refine jW (cB (dT h_4)) <| jC <| jF <| jA (jD (v := .int .u8 ((c.toNat : Nat) : Int)) rfl) <| jA (PO.convI (c := ((c.toNat : Nat) : Int)) kv gC rfl (wr (by omega))) <| jA (kZ (c := ((c.toNat : Nat) : Int) - 97) rfl rfl (wr (by omega))) <| jA (jc (c := (((c.toNat : Nat) : Int) - 97) + 10) rfl rfl (wr (by omega))) <| jA (jG (v := iv ((((c.toNat : Nat) : Int) - 97) + 10)) rfl) <| jE <| jB ?_
        refine jN <| jX <| jV (.inl rfl) rfl (jJ (v := iv ((((c.toNat : Nat) : Int) - 97) + 10)) rfl) (List.nil_sublist _) ?_
        refine ⟨_, ?_, ?_, rfl, rfl⟩
        · first | exact hexV_a (by omega) (by omega) | exact hexV_b (by omega) (by omega) | exact hexV_c (by omega) (by omega)
        omega
      refine jR (cB (dF h_4)) <| jT <| jB <| jC <| jF <| jA (jG (v := iv (-1)) rfl) <| jE <| jB <| jN <| jV (.inl rfl) rfl (jJ (v := iv (-1)) rfl) (List.nil_sublist _) ?_
      refine ⟨_, ?_, ?_, rfl, rfl⟩
      · first | exact hexV_a (by omega) (by omega) | exact hexV_b (by omega) (by omega) | exact hexV_c (by omega) (by omega)
      omega
    refine jS (b := false) rfl rfl rfl (cB (dF h_3)) <| jS (b := false) rfl rfl rfl (cB (dF h_3)) <| jA (ji (v := .bool false) (cB (dF h_3)) rfl) <| jE <| jB <| jR (cB rfl) <| jT <| jB <| jC <| jF ?_
    refine jA (jG (v := iv (-1)) rfl) <| jE <| jB <| jN <| jV (.inl rfl) rfl (jJ (v := iv (-1)) rfl) (List.nil_sublist _) ?_
    refine ⟨_, ?_, ?_, rfl, rfl⟩
    · first | exact hexV_a (by omega) (by omega) | exact hexV_b (by omega) (by omega) | exact hexV_c (by omega) (by omega)
    omega
  refine jS (b := false) rfl rfl rfl (cB (dF h_1)) <| jS (b := false) rfl rfl rfl (cB (dF h_1)) <| jA (ji (v := .bool false) (cB (dF h_1)) rfl) <| jE <| jB <| jR (cB rfl) <| jT <| jB <| jC <| jC ?_
  refine jF <| jA (jD (v := .int .u8 ((c.toNat : Nat) : Int)) rfl) <| jA (PO.geq rfl rfl) <| jA (jD (v := .bool (decide (97 ≤ ((c.toNat : Nat) : Int)))) rfl) ?_
  by_cases h_5 : 97 ≤ ((c.toNat : Nat) : Int)
  · refine jM rfl rfl rfl (cB (dT h_5)) (jP (jU (jD (v := .int .u8 ((c.toNat : Nat) : Int)) rfl))) ?_
    rintro _ _ ⟨rfl, rfl⟩
    refine jM rfl rfl rfl (cB (dT h_5)) (jP (jU (PO.leq rfl rfl))) ?_
    rintro _ _ ⟨rfl, rfl⟩
    refine jA (jh (v := .bool (decide (((c.toNat : Nat) : Int) ≤ 102))) (cB (dT h_5)) rfl) <| jE <| jB ?_
    by_cases h_6 : ((c.toNat : Nat) : Int) ≤ 102
    · refine jW (cB (dT h_6)) <| jC <| jF <| jA (jD (v := .int .u8 ((c.toNat : Nat) : Int)) rfl) <| jA (PO.convI (c := ((c.toNat : Nat) : Int)) kv gC rfl (wr (by omega))) <| jA (kZ (c := ((c.toNat : Nat) : Int) - 97) rfl rfl (wr (by omega))) <| jA (jc (c := (((c.toNat : Nat) : Int) - 97) + 10) rfl rfl (wr (by omega))) <| jA (jG (v := iv ((((c.toNat : Nat) : Int) - 97) + 10)) rfl) <| jE <| jB ?_
      refine jN <| jX <| jV (.inl rfl) rfl (jJ (v := iv ((((c.toNat : Nat) : Int) - 97) + 10)) rfl) (List.nil_sublist _) ?_
      refine ⟨_, ?_, ?_, rfl, rfl⟩
      · first | exact hexV_a (by omega) (by omega) | exact hexV_b (by omega) (by omega) | exact hexV_c (by omega) (by omega)
      omega
    refine jR (cB (dF h_6)) <| jT <| jB <| jC <| jF <| jA (jG (v := iv (-1)) rfl) <| jE <| jB <| jN <| jV (.inl rfl) rfl (jJ (v := iv (-1)) rfl) (List.nil_sublist _) ?_
    refine ⟨_, ?_, ?_, rfl, rfl⟩
    · first | exact hexV_a (by omega) (by omega) | exact hexV_b (by omega) (by omega) | exact hexV_c (by omega) (by omega)
    omega
  refine jS (b := false) rfl rfl rfl (cB (dF h_5)) <| jS (b := false) rfl rfl rfl (cB (dF h_5)) <| jA (ji (v := .bool false) (cB (dF h_5)) rfl) <| jE <| jB <| jR (cB rfl) <| jT <| jB <| jC <| jF ?_
  refine jA (jG (v := iv (-1)) rfl) <| jE <| jB <| jN <| jV (.inl rfl) rfl (jJ (v := iv (-1)) rfl) (List.nil_sublist _) ?_
  refine ⟨_, ?_, ?_, rfl, rfl⟩
  · first | exact hexV_a (by omega) (by omega) | exact hexV_b (by omega) (by omega) | exact hexV_c (by omega) (by omega)
  omega

theorem N_sHex (s : Str) (hs : s.length ≤ 1000000000000) :
    Ct Tryz.prog 93 [str s] ([]) (fun _ => True) (fun v A' => ∃ r0 r1, hexP s = (r0, r1) ∧ r0.length ≤ 40000 ∧ v = .tuple #[str r0, .bool r1] ∧ A' = []) := by
  refine Ct.intro Tryz.func93 rfl Tryz.ntmps93 (lb rfl) fun w0 hpre => ?_
  refine jC <| jF <| jA (jG (v := str []) rfl) <| jA (jG (v := .bool false) rfl) <| jE <| jB <| jC <| jC <| jF <| jA (jD (v := str s) rfl) ?_
  refine jA (kF kg rfl) <| jA (kR rfl rfl) <| jE <| jB ?_
  by_cases h_1 : 20000 < (s.length : Int)
  · refine jW (cB (dT h_1)) <| jC <| jF <| jA (jG (v := str []) rfl) <| jA (jG (v := .bool false) rfl) <| jE <| jB <| jN <| jX <| kC (.inl rfl) rfl (jJ (v := str []) rfl) (jJ (v := .bool false) rfl) (List.nil_sublist _) ?_
    exact ⟨[], false, (by first | exact hexP_yes (by assumption) | (rw [hexP_no (by assumption), ← hexAcc_nil, hE])), (by first | omega | (simp only [LE]; omega)), rfl, rfl⟩
  refine jR (cB (dF h_1)) <| jT <| jB <| jC <| jF ?_
  refine jH rfl (kH (ps := []) (cur := #[]) kr gH gK rfl (by kernel_rfl) (by decide) (by decide)) ?_
  rintro _ _ ⟨a_2, rfl, rfl⟩
  refine jA (jG (v := .slice a_2 0 0) rfl) <| jE <| jB <| jC <| jC <| jF <| jA (jG (v := iv 0) rfl) <| jE <| jB <| jf ?_
  refine kD (fun k_ e_ L_ => ∃ j : Nat, ∃ out_a : Option Addr, ∃ out_c : Nat, ∃ out_ : Str, (j ≤ s.length) ∧ (out_.length ≤ 2 * j) ∧ (hexAcc (s.drop j) out_ = hexAcc s ([] : List UInt8)) ∧ e_ 0 = str s ∧ e_ 2 = str [] ∧ e_ 3 = .bool false ∧ e_ 4 = .slice out_a out_.length out_c ∧ e_ 5 = nv j ∧ L_ = [Res.row (.slice out_a out_.length out_c) 5 1 out_.length (out_.map encB)] ∧ k_ = s.length - j) _ ⟨0, a_2, 0, ([] : List UInt8), by omega, (by first | omega | (simp only [LE]; omega)), rfl, rfl, rfl, rfl, rfl, rfl, rfl, rfl⟩ ?_
  rintro _ e_3 _ ⟨j, out_a, out_c, out_, hj, ho, hR, he_4, he_5, he_6, he_7, he_8, rfl, rfl⟩
  refine jC <| jC <| jF <| jA (jD (v := nv j) he_8) <| jA (jD (v := str s) he_4) <| jA (kF kg rfl) <| jA (jl rfl rfl) <| jE <| jB ?_
  by_cases h_9 : ((j : Nat) : Int) < (s.length : Int)
  · have hlt : j < s.length := by omega
    have hu8 := UInt8.toNat_lt (s.getD j 0)
    refine jW (cB (dT h_9)) <| jT <| jB <| jC <| jf <| kJ [] 15 mixed (by simp) <| jL 0 rfl (jD (v := .slice out_a out_.length out_c) he_7) <| jL 1 rfl (jD (v := str s) he_4) <| jL 2 rfl (jD (v := nv j) he_8) <| jL 3 rfl (PO.indexS (i := j) (c := s.getD j 0) kg rfl rfl (getD_some (by omega))) ?_
    refine jL 4 rfl (PO.convI (c := ((s.getD j 0).toNat : Int)) kv gC rfl (wr (by omega))) <| jL 5 rfl (PO.quoN (c := ((((s.getD j 0).toNat) / 16 : Nat) : Int)) rfl rfl (by omega) (by omega) (by omega) (wr (by omega))) <| jL 7 rfl (jD (v := str s) he_4) <| jL 8 rfl (jD (v := nv j) he_8) <| jL 9 rfl (PO.indexS (i := j) (c := s.getD j 0) kg rfl rfl (getD_some (by omega))) <| jL 10 rfl (PO.convI (c := ((s.getD j 0).toNat : Int)) kv gC rfl (wr (by omega))) <| jL 11 rfl (PO.remN (c := ((((s.getD j 0).toNat) % 16 : Nat) : Int)) rfl rfl (by omega) (by omega) (by omega)) <| jj (i := 6) ?_
    refine jz rfl rfl (jI [] Tryz.call133 rfl (N_figure (((s.getD j 0).toNat) / 16) (by omega)) rfl (fun _ _ => trivial)) ?_
    rintro _ _ ⟨_, ⟨rfl, rfl⟩, rfl⟩
    refine ⟨(fun _ h => by cases h), ?_⟩
    refine jj (i := 12) ?_
    refine jz rfl rfl (jI [] Tryz.call133 rfl (N_figure (((s.getD j 0).toNat) % 16) (by omega)) rfl (fun _ _ => trivial)) ?_
    rintro _ _ ⟨_, ⟨rfl, rfl⟩, rfl⟩
    refine ⟨(fun _ h => by cases h), ?_⟩
    refine jj (i := 13) ?_
    refine jz rfl rfl (kH (ps := [(0, .int .u8 (((hexFig (((s.getD j 0).toNat) / 16)).toNat : Nat) : Int)), (1, .int .u8 (((hexFig (((s.getD j 0).toNat) % 16)).toNat : Nat) : Int))]) (cur := #[.int .u8 (((hexFig (((s.getD j 0).toNat) / 16)).toNat : Nat) : Int), .int .u8 (((hexFig (((s.getD j 0).toNat) % 16)).toNat : Nat) : Int)]) kr gH gK rfl (by kernel_rfl) (by decide) (by decide)) ?_
    rintro _ _ ⟨a_11, rfl, rfl⟩
    refine ⟨(fun _ h => by cases h), ?_⟩
    refine jj (i := 14) ?_
    refine jz rfl rfl (kU 1 (q := 2) (news := ([hexFig (((s.getD j 0).toNat) / 16), hexFig (((s.getD j 0).toNat) % 16)] : List UInt8).map encB) (n' := (out_ ++ ([hexFig (((s.getD j 0).toNat) / 16), hexFig (((s.getD j 0).toNat) % 16)] : List UInt8)).length) (cs' := (out_ ++ ([hexFig (((s.getD j 0).toNat) / 16), hexFig (((s.getD j 0).toNat) % 16)] : List UInt8)).map encB) rfl kr kr Tryz.typeInfo5 rfl (by' := 1) rfl rfl rfl rfl rfl (fun w hw => Src.sees (hw.see (i := 0) rfl) (oneB _)) (by (try simp only [LE]); omega) (by (try simp only [LE]); omega) (by simp only [List.length_append, List.length_take, List.length_drop, List.length_cons, List.length_nil] <;> first | rfl | omega) (by simp only [List.map_append])) ?_
    rintro _ _ ⟨a_14, c_15, rfl, rfl⟩
    refine ⟨(fun _ h => by cases h), ?_⟩
    refine jL 15 rfl (jG (v := .slice a_14 ((out_ ++ ([hexFig (((s.getD j 0).toNat) / 16), hexFig (((s.getD j 0).toNat) % 16)] : List UInt8)).length) c_15) rfl) <| kI (by kernel_rfl) <| jm <| jB <| jF <| jA (jD (v := nv j) he_8) <| jA (jc (c := ((j + 1 : Nat) : Int)) rfl rfl (wr (by omega))) <| jA (jG (v := iv ((j + 1 : Nat) : Int)) rfl) <| jE <| kB [1] (A := [Res.row (.slice a_14 ((out_ ++ ([hexFig (((s.getD j 0).toNat) / 16), hexFig (((s.getD j 0).toNat) % 16)] : List UInt8)).length) c_15) 5 1 ((out_ ++ ([hexFig (((s.getD j 0).toNat) / 16), hexFig (((s.getD j 0).toNat) % 16)] : List UInt8)).length) ((out_ ++ ([hexFig (((s.getD j 0).toNat) / 16), hexFig (((s.getD j 0).toNat) % 16)] : List UInt8)).map encB)]) rfl ?_
    refine jq (s.length - (j + 1)) (by omega) ⟨j + 1, a_14, c_15, (out_ ++ ([hexFig (((s.getD j 0).toNat) / 16), hexFig (((s.getD j 0).toNat) % 16)] : List UInt8)), by omega, (by first | omega | (simp only [LE]; omega)), (by rw [drop_at (getD_some (d := 0) hlt)] at hR; simp only [hexAcc, h_1, h_9, SB] at hR; (repeat (first | rw [if_pos (by omega)] at hR | rw [if_neg (by omega)] at hR)); exact hR), he_4, he_5, he_6, rfl, rfl, rfl, rfl⟩
  rw [List.drop_of_length_le (by omega)] at hR
  simp only [hexAcc] at hR
  have hE := hR.symm
  refine jR (cB (dF h_9)) <| jx <| jb <| jb <| jy <| jB <| jC <| jF <| jA (jD (v := .slice out_a out_.length out_c) he_7) <| jK (LO.toStr 0 out_ rfl kr kv kg rfl rfl) ?_
  refine jA (jG (v := str out_) rfl) <| jA (jG (v := .bool true) rfl) <| jE <| jB <| jN <| kC (.inl rfl) rfl (jJ (v := str out_) rfl) (jJ (v := .bool true) rfl) (List.nil_sublist _) ?_
  exact ⟨out_, true, (by first | exact hexP_yes (by assumption) | (rw [hexP_no (by assumption), ← hexAcc_nil, hE])), (by first | omega | (simp only [LE]; omega)), rfl, rfl⟩

theorem N_hex (s : Str) (hs : s.length ≤ 1000000000000) :
    Ct Tryz.prog 121 [str s] ([]) (fun _ => True) (fun v A' => ∃ r0 r1, hexP s = (r0, r1) ∧ r0.length ≤ 40000 ∧ v = .tuple #[str r0, .bool r1] ∧ A' = []) := by
  refine Ct.intro Tryz.func121 rfl Tryz.ntmps121 (lb rfl) fun w0 hpre => ?_
  refine jC <| jF <| jA (jG (v := str []) rfl) <| jA (jG (v := .bool false) rfl) <| jE <| jB <| jC <| jC <| jF <| jA (jD (v := str s) rfl) ?_
  refine jA (kF kg rfl) <| jA (kR rfl rfl) <| jE <| jB ?_
  by_cases h_1 : 20000 < (s.length : Int)
  · refine jW (cB (dT h_1)) <| jC <| jF <| jA (jG (v := str []) rfl) <| jA (jG (v := .bool false) rfl) <| jE <| jB <| jN <| jX <| kC (.inl rfl) rfl (jJ (v := str []) rfl) (jJ (v := .bool false) rfl) (List.nil_sublist _) ?_
    exact ⟨[], false, (by first | exact hexP_yes (by assumption) | exact hexP_no (by assumption)), (by first | (rw [hexB_len]; omega) | (simp only [List.length_nil]; omega)), rfl, rfl⟩
  refine jR (cB (dF h_1)) <| jT <| jB <| jC <| jF <| jA (jD (v := str s) rfl) ?_
  refine jH rfl (JO.toBytes kg kr kv rfl (by unfold maxLen; omega)) ?_
  rintro _ _ ⟨a_2, c_3, rfl, rfl⟩
  refine jH rfl (jI [] Tryz.call148 rfl (N_hexEnc a_2 c_3 s (by omega)) rfl (fun w hw => hw.see (i := 0) rfl)) ?_
  rintro _ _ ⟨_, ⟨rfl, rfl⟩, rfl⟩
  refine jA (jG (v := str (hexB s)) rfl) <| jA (jG (v := .bool true) rfl) <| jE <| jB <| jN <| kC (.inl rfl) rfl (jJ (v := str (hexB s)) rfl) (jJ (v := .bool true) rfl) (List.nil_sublist _) ?_
  exact ⟨(hexB s), true, (by first | exact hexP_yes (by assumption) | exact hexP_no (by assumption)), (by first | (rw [hexB_len]; omega) | (simp only [List.length_nil]; omega)), rfl, rfl⟩

theorem N_hexOf (s : Str) (hs : s.length ≤ 1000000000000) :
    Ct Tryz.prog 80 [str s] ([]) (fun _ => True) (fun v A' => ∃ r0, hexS s = r0 ∧ r0.length ≤ 40000 ∧ v = str r0 ∧ A' = []) := by
  refine Ct.intro Tryz.func80 rfl Tryz.ntmps80 (lb rfl) fun w0 hpre => ?_
  refine jC <| jF <| jA (jG (v := str []) rfl) <| jE <| jB <| jC <| jF <| jA (jD (v := str s) rfl) ?_
  refine jH rfl (jI [] Tryz.call121 rfl (N_hex s (by omega)) rfl (fun _ _ => trivial)) ?_
  rintro _ _ ⟨_, ⟨u_3, b_5, e_1, f_4, rfl, rfl⟩, rfl⟩
  refine jA (jD (v := .tuple #[str u_3, .bool b_5]) rfl) <| jA (je (v := str u_3) rfl rfl) <| jA (je (v := .bool b_5) rfl rfl) <| jA (jG (v := str u_3) rfl) <| jA (jG (v := .bool b_5) rfl) <| jE <| jB <| jC <| jF <| jA (jD (v := str u_3) rfl) ?_
  refine jA (jG (v := str u_3) rfl) <| jE <| jB <| jN <| jV (.inl rfl) rfl (jJ (v := str u_3) rfl) (List.nil_sublist _) ?_
  exact ⟨u_3, (by simp only [hexS_P, e_1, SB]; (repeat (first | rw [if_pos (by omega)] | rw [if_neg (by omega)])); all_goals (first | rfl | simp only [SB, e_1])), (by first | omega | (simp only [LE]; omega)), rfl, rfl⟩

theorem N_unhex (t : Str) (ht : t.length ≤ 1000000000000) :
    Ct Tryz.prog 115 [str t] ([]) (fun w => HexOk w) (fun v A' => ∃ r0 r1, unhex t = (r0, r1) ∧ r0.length ≤ 20000 ∧ v = .tuple #[str r0, .bool r1] ∧ A' = []) := by
  refine Ct.introL Tryz.func115 rfl Tryz.ntmps115 (lb rfl) fun w0 hpre hlow => ?_
  refine jC <| jF <| jA (jG (v := str []) rfl) <| jA (jG (v := .bool false) rfl) <| jE <| jB <| jC <| jF <| jA (jD (v := str t) rfl) ?_
  refine jH rfl (jI [] Tryz.call147 rfl (N_hexDec t (by omega)) rfl (fun w hw => hw.hex hlow hpre)) ?_
  rintro _ _ ⟨_, ⟨da, dc, dr, ⟨hd, rfl⟩ | ⟨hd, te, pe, rfl⟩, rfl⟩, rfl⟩
  · refine jA (jD (v := .tuple #[.slice da dr.length dc, .nilIface]) rfl) <| jA (je (v := .slice da dr.length dc) rfl rfl) <| jA (je (v := .nilIface) rfl rfl) <| jA (jG (v := .slice da dr.length dc) rfl) <| jA (jG (v := .nilIface) rfl) <| jE <| jB <| jC <| jC <| jF ?_
    refine jA (jD (v := .nilIface) rfl) <| jA (PO.neqIfN Tryz.underlying95 rfl rfl) <| jA (jD (v := .bool false) rfl) <| jM rfl rfl rfl (cB rfl) (jP (jU (jD (v := .slice da dr.length dc) rfl))) ?_
    rintro _ _ ⟨rfl, rfl⟩
    refine jM rfl rfl rfl (cB rfl) (jP (jU (jr kr rfl))) ?_
    rintro _ _ ⟨rfl, rfl⟩
    refine jM rfl rfl rfl (cB rfl) (jP (jU (kR rfl rfl))) ?_
    rintro _ _ ⟨rfl, rfl⟩
    refine jA (ji (v := .bool (decide (20000 < ((dr.length : Nat) : Int)))) (cB rfl) rfl) <| jA (jD (v := .bool (decide (20000 < ((dr.length : Nat) : Int)))) rfl) ?_
    by_cases h_1 : 20000 < ((dr.length : Nat) : Int)
    · refine jS (b := true) rfl rfl rfl (cB (dT h_1)) <| jS (b := true) rfl rfl rfl (cB (dT h_1)) <| jS (b := true) rfl rfl rfl (cB (dT h_1)) <| jS (b := true) rfl rfl rfl (cB (dT h_1)) <| jA (jh (v := .bool true) (cB (dT h_1)) rfl) <| jE <| jB <| jW (cB rfl) <| jC <| jF ?_
      refine jA (jG (v := str []) rfl) <| jA (jG (v := .bool false) rfl) <| jE <| jB <| jN <| jX <| kC (.inl rfl) rfl (jJ (v := str []) rfl) (jJ (v := .bool false) rfl) (List.nil_sublist _) ?_
      exact ⟨[], false, (by first | exact unhex_err hd | exact unhex_long hd (by assumption) | exact unhex_ne hd (by assumption) | exact unhex_yes hd (by assumption) (by assumption)), (by first | omega | (simp only [LE]; omega)), rfl, rfl⟩
    refine jM rfl rfl rfl (cB (dF h_1)) (jP (jU (jD (v := .slice da dr.length dc) rfl))) ?_
    rintro _ _ ⟨rfl, rfl⟩
    refine jM rfl rfl rfl (cB (dF h_1)) (jI [] Tryz.call148 rfl (N_hexEnc da dc dr (by omega)) rfl (fun w hw => hw.see (i := 0) rfl)) ?_
    rintro _ _ ⟨_, ⟨rfl, rfl⟩, rfl⟩
    refine jM rfl rfl rfl (cB (dF h_1)) (jP (jU (jD (v := str t) rfl))) ?_
    rintro _ _ ⟨rfl, rfl⟩
    refine jM rfl rfl rfl (cB (dF h_1)) (jP (jU (PO.neqS rfl rfl))) ?_
    rintro _ _ ⟨rfl, rfl⟩
    refine jA (ji (v := .bool (!(decide ((hexB dr) = t)))) (cB (dF h_1)) rfl) <| jE <| jB ?_
    by_cases h_2 : (hexB dr) = t
    · refine jR (cB (cN (dT h_2))) <| jT <| jB <| jC <| jF <| jA (jD (v := .slice da dr.length dc) rfl) <| jK (LO.toStr 0 dr rfl kr kv kg rfl rfl) <| jA (jG (v := str dr) rfl) <| jA (jG (v := .bool true) rfl) <| jE ?_
      refine jB <| jN <| kC (.inl rfl) rfl (jJ (v := str dr) rfl) (jJ (v := .bool true) rfl) (List.nil_sublist _) ?_
      exact ⟨dr, true, (by first | exact unhex_err hd | exact unhex_long hd (by assumption) | exact unhex_ne hd (by assumption) | exact unhex_yes hd (by assumption) (by assumption)), (by first | omega | (simp only [LE]; omega)), rfl, rfl⟩
    refine jW (cB (cN (dF h_2))) <| jC <| jF <| jA (jG (v := str []) rfl) <| jA (jG (v := .bool false) rfl) <| jE <| jB <| jN <| jX <| kC (.inl rfl) rfl (jJ (v := str []) rfl) (jJ (v := .bool false) rfl) (List.nil_sublist _) ?_
    exact ⟨[], false, (by first | exact unhex_err hd | exact unhex_long hd (by assumption) | exact unhex_ne hd (by assumption) | exact unhex_yes hd (by assumption) (by assumption)), (by first | omega | (simp only [LE]; omega)), rfl, rfl⟩
  refine jA (jD (v := .tuple #[.slice da dr.length dc, (.iface te pe)]) rfl) <| jA (je (v := .slice da dr.length dc) rfl rfl) <| jA (je (v := (.iface te pe)) rfl rfl) <| jA (jG (v := .slice da dr.length dc) rfl) <| jA (jG (v := (.iface te pe)) rfl) <| jE <| jB <| jC <| jC <| jF ?_
  refine jA (jD (v := (.iface te pe)) rfl) <| jA (PO.neqIfS Tryz.underlying95 rfl rfl) <| jA (jD (v := .bool true) rfl) <| jS (b := true) rfl rfl rfl (cB rfl) <| jS (b := true) rfl rfl rfl (cB rfl) <| jS (b := true) rfl rfl rfl (cB rfl) <| jA (jh (v := .bool true) (cB rfl) rfl) <| jA (jD (v := .bool true) rfl) <| jS (b := true) rfl rfl rfl (cB rfl) <| jS (b := true) rfl rfl rfl (cB rfl) ?_
  refine jS (b := true) rfl rfl rfl (cB rfl) <| jS (b := true) rfl rfl rfl (cB rfl) <| jA (jh (v := .bool true) (cB rfl) rfl) <| jE <| jB <| jW (cB rfl) <| jC <| jF <| jA (jG (v := str []) rfl) <| jA (jG (v := .bool false) rfl) ?_
  refine jE <| jB <| jN <| jX <| kC (.inl rfl) rfl (jJ (v := str []) rfl) (jJ (v := .bool false) rfl) (List.nil_sublist _) ?_
  exact ⟨[], false, (by first | exact unhex_err hd | exact unhex_long hd (by assumption) | exact unhex_ne hd (by assumption) | exact unhex_yes hd (by assumption) (by assumption)), (by first | omega | (simp only [LE]; omega)), rfl, rfl⟩

theorem N_sUnhex (t : Str) (ht : t.length ≤ 1000000000000) :
    Ct Tryz.prog 107 [str t] ([]) (fun _ => True) (fun v A' => ∃ r0 r1, unhex t = (r0, r1) ∧ r0.length ≤ 20000 ∧ v = .tuple #[str r0, .bool r1] ∧ A' = []) := by
  refine Ct.intro Tryz.func107 rfl Tryz.ntmps107 (lb rfl) fun w0 hpre => ?_
  refine jC <| jF <| jA (jG (v := str []) rfl) <| jA (jG (v := .bool false) rfl) <| jE <| jB <| jC <| jC <| jF <| jA (jD (v := str t) rfl) ?_
  refine jA (kF kg rfl) <| jA (kR rfl rfl) <| jA (jD (v := .bool (decide (40000 < (t.length : Int)))) rfl) ?_
  by_cases h_1 : 40000 < (t.length : Int)
  · refine jS (b := true) rfl rfl rfl (cB (dT h_1)) <| jS (b := true) rfl rfl rfl (cB (dT h_1)) <| jS (b := true) rfl rfl rfl (cB (dT h_1)) <| jS (b := true) rfl rfl rfl (cB (dT h_1)) <| jA (jh (v := .bool true) (cB (dT h_1)) rfl) <| jE <| jB <| jW (cB rfl) <| jC <| jF ?_
    refine jA (jG (v := str []) rfl) <| jA (jG (v := .bool false) rfl) <| jE <| jB <| jN <| jX <| kC (.inl rfl) rfl (jJ (v := str []) rfl) (jJ (v := .bool false) rfl) (List.nil_sublist _) ?_
    exact ⟨[], false, (by first | exact unhex_bad (by omega) | exact unhex_some (by rw [List.drop_of_length_le (by omega)] at hR; rw [← hR]; simp [unhexL]) (by assumption) | exact unhex_none (by rw [unhexL_step (by omega)] at hR; simp only [if_true] at hR; rw [if_pos (by omega)] at hR; exact hR.symm)), (by first | omega | (simp only [LE]; omega)), rfl, rfl⟩
  refine jM rfl rfl rfl (cB (dF h_1)) (jP (jU (jD (v := str t) rfl))) ?_
  rintro _ _ ⟨rfl, rfl⟩
  refine jM rfl rfl rfl (cB (dF h_1)) (jP (jU (kF kg rfl))) ?_
  rintro _ _ ⟨rfl, rfl⟩
  refine jM rfl rfl rfl (cB (dF h_1)) (jP (jU (PO.remN (c := ((t.length % 2 : Nat) : Int)) rfl rfl (by omega) (by omega) (by omega)))) ?_
  rintro _ _ ⟨rfl, rfl⟩
  refine jM rfl rfl rfl (cB (dF h_1)) (jP (jU (kS rfl rfl))) ?_
  rintro _ _ ⟨rfl, rfl⟩
  refine jA (ji (v := .bool (!(decide (((t.length % 2 : Nat) : Int) = 0)))) (cB (dF h_1)) rfl) <| jE <| jB ?_
  by_cases h_2 : ((t.length % 2 : Nat) : Int) = 0
  · refine jR (cB (cN (dT h_2))) <| jT <| jB <| jC <| jF ?_
    refine jH rfl (kH (ps := []) (cur := #[]) kr gH gK rfl (by kernel_rfl) (by decide) (by decide)) ?_
    rintro _ _ ⟨a_3, rfl, rfl⟩
    refine jA (jG (v := .slice a_3 0 0) rfl) <| jE <| jB <| jC <| jC <| jF <| jA (jG (v := iv 0) rfl) <| jE <| jB <| jf ?_
    refine kD (fun k_ e_ L_ => ∃ j : Nat, ∃ oa : Option Addr, ∃ oc : Nat, ∃ o_ : Str, (j ≤ t.length) ∧ ((t.length - j) % 2 = 0) ∧ (o_.length * 2 ≤ j) ∧ ((unhexL (t.drop j)).map (o_ ++ ·) = unhexL t) ∧ e_ 0 = str t ∧ e_ 4 = .slice oa o_.length oc ∧ e_ 5 = nv j ∧ L_ = [Res.row (.slice oa o_.length oc) 5 1 o_.length (o_.map encB)] ∧ k_ = t.length - j) _ ⟨0, a_3, 0, [], by omega, by omega, (by simp), (by simp), rfl, rfl, rfl, rfl, rfl⟩ ?_
    rintro _ e_4 _ ⟨j, oa, oc, o_, hj, hj2, ho, hR, he_5, he_6, he_7, rfl, rfl⟩
    refine jC <| jC <| jF <| jA (jD (v := nv j) he_7) <| jA (jD (v := str t) he_5) <| jA (kF kg rfl) <| jA (jl rfl rfl) <| jE <| jB ?_
    by_cases h_8 : ((j : Nat) : Int) < (t.length : Int)
    · refine jW (cB (dT h_8)) <| jT <| jB <| jC <| jf <| jC <| jF <| jA (jD (v := str t) he_5) <| jA (jD (v := nv j) he_7) <| jA (PO.indexS (i := j) (c := t.getD j 0) kg rfl rfl (getD_some (by omega))) ?_
      have hu_9 := UInt8.toNat_lt (t.getD j 0)
      refine jH rfl (jI [] Tryz.call140 rfl (N_value (t.getD j 0)) rfl (fun _ _ => trivial)) ?_
      rintro _ _ ⟨_, ⟨n_10, e_11, f_12, rfl, rfl⟩, rfl⟩
      refine jA (jG (v := iv n_10) rfl) <| jE <| jB <| jC <| jF <| jA (jD (v := str t) he_5) <| jA (jD (v := nv j) he_7) <| jA (jc (c := ((j + 1 : Nat) : Int)) rfl rfl (wr (by omega))) <| jA (PO.indexS (i := j + 1) (c := t.getD (j + 1) 0) kg rfl rfl (getD_some (by omega))) ?_
      have hu_13 := UInt8.toNat_lt (t.getD (j + 1) 0)
      refine jH rfl (jI [] Tryz.call140 rfl (N_value (t.getD (j + 1) 0)) rfl (fun _ _ => trivial)) ?_
      rintro _ _ ⟨_, ⟨n_14, e_15, f_16, rfl, rfl⟩, rfl⟩
      refine jA (jG (v := iv n_14) rfl) <| jE <| jB <| jC <| jC <| jF <| jA (jD (v := iv n_10) rfl) <| jA (jl rfl rfl) <| jA (jD (v := .bool (decide (n_10 < 0))) rfl) ?_
      by_cases h_17 : n_10 < 0
      · refine jS (b := true) rfl rfl rfl (cB (dT h_17)) <| jS (b := true) rfl rfl rfl (cB (dT h_17)) <| jA (jh (v := .bool true) (cB (dT h_17)) rfl) <| jE <| jB <| jW (cB rfl) <| jC <| jF <| jA (jG (v := str []) rfl) <| jA (jG (v := .bool false) rfl) ?_
        refine jE <| jB <| jN <| jX <| jv <| jX <| jX <| jv <| jX <| kC (.inl rfl) rfl (jJ (v := str []) rfl) (jJ (v := .bool false) rfl) (List.nil_sublist _) ?_
        exact ⟨[], false, (by first | exact unhex_bad (by omega) | exact unhex_some (by rw [List.drop_of_length_le (by omega)] at hR; rw [← hR]; simp [unhexL]) (by assumption) | exact unhex_none (by rw [unhexL_step (by omega)] at hR; simp only [e_11, e_15] at hR; rw [if_pos (by omega)] at hR; exact hR.symm)), (by first | omega | (simp only [LE]; omega)), rfl, rfl⟩
      refine jM rfl rfl rfl (cB (dF h_17)) (jP (jU (jD (v := iv n_14) rfl))) ?_
      rintro _ _ ⟨rfl, rfl⟩
      refine jM rfl rfl rfl (cB (dF h_17)) (jP (jU (jl rfl rfl))) ?_
      rintro _ _ ⟨rfl, rfl⟩
      refine jA (ji (v := .bool (decide (n_14 < 0))) (cB (dF h_17)) rfl) <| jE <| jB ?_
      by_cases h_18 : n_14 < 0
      · refine jW (cB (dT h_18)) <| jC <| jF <| jA (jG (v := str []) rfl) <| jA (jG (v := .bool false) rfl) <| jE <| jB <| jN <| jX <| jv ?_
        refine jX <| jX <| jv <| jX <| kC (.inl rfl) rfl (jJ (v := str []) rfl) (jJ (v := .bool false) rfl) (List.nil_sublist _) ?_
        exact ⟨[], false, (by first | exact unhex_bad (by omega) | exact unhex_some (by rw [List.drop_of_length_le (by omega)] at hR; rw [← hR]; simp [unhexL]) (by assumption) | exact unhex_none (by rw [unhexL_step (by omega)] at hR; simp only [e_11, e_15] at hR; rw [if_pos (by omega)] at hR; exact hR.symm)), (by first | omega | (simp only [LE]; omega)), rfl, rfl⟩
      refine jR (cB (dF h_18)) <| jT <| jB <| jF <| jA (jD (v := .slice oa o_.length oc) he_6) <| jA (jD (v := iv n_10) rfl) <| jA (PO.mul (c := 16 * n_10) rfl rfl (wr (by omega))) <| jA (jD (v := iv n_14) rfl) <| jA (jc (c := (16 * n_10) + n_14) rfl rfl (wr (by omega))) <| jA (PO.convI (c := (((UInt8.ofNat ((16 * n_10) + n_14).toNat).toNat : Nat) : Int)) gC kv rfl (wr8u (by omega) rfl)) ?_
      refine jH rfl (kH (ps := [(0, .int .u8 (((UInt8.ofNat ((16 * n_10) + n_14).toNat).toNat : Nat) : Int))]) (cur := #[.int .u8 (((UInt8.ofNat ((16 * n_10) + n_14).toNat).toNat : Nat) : Int)]) kr gH gK rfl (by kernel_rfl) (by decide) (by decide)) ?_
      rintro _ _ ⟨a_19, rfl, rfl⟩
      refine jH rfl (kU 1 (q := 1) (news := ([UInt8.ofNat ((16 * n_10) + n_14).toNat] : List UInt8).map encB) (n' := (o_ ++ ([UInt8.ofNat ((16 * n_10) + n_14).toNat] : List UInt8)).length) (cs' := (o_ ++ ([UInt8.ofNat ((16 * n_10) + n_14).toNat] : List UInt8)).map encB) rfl kr kr Tryz.typeInfo5 rfl (by' := 1) rfl rfl rfl rfl rfl (fun w hw => Src.sees (hw.see (i := 0) rfl) (oneB _)) (by (try simp only [LE]); omega) (by (try simp only [LE]); omega) (by simp only [List.length_append, List.length_take, List.length_drop, List.length_cons, List.length_nil] <;> first | rfl | omega) (by simp only [List.map_append])) ?_
      rintro _ _ ⟨a_20, c_21, rfl, rfl⟩
      refine jA (jG (v := .slice a_20 ((o_ ++ ([UInt8.ofNat ((16 * n_10) + n_14).toNat] : List UInt8)).length) c_21) rfl) <| jE <| jm <| jB <| jF <| jA (jD (v := nv j) he_7) <| jA (jc (c := ((j + 2 : Nat) : Int)) rfl rfl (wr (by omega))) <| jA (jG (v := iv ((j + 2 : Nat) : Int)) rfl) <| jE <| kB [1] (A := [Res.row (.slice a_20 ((o_ ++ ([UInt8.ofNat ((16 * n_10) + n_14).toNat] : List UInt8)).length) c_21) 5 1 ((o_ ++ ([UInt8.ofNat ((16 * n_10) + n_14).toNat] : List UInt8)).length) ((o_ ++ ([UInt8.ofNat ((16 * n_10) + n_14).toNat] : List UInt8)).map encB)]) rfl ?_
      refine jq (t.length - (j + 2)) (by omega) ⟨j + 2, a_20, c_21, (o_ ++ ([UInt8.ofNat ((16 * n_10) + n_14).toNat] : List UInt8)), by omega, by omega, (by simp only [List.length_append, List.length_cons, List.length_nil]; omega), (by rw [unhexL_step (by omega)] at hR; simp only [e_11, e_15] at hR; rw [if_neg (by omega)] at hR; exact hR), he_5, rfl, rfl, rfl, rfl⟩
    refine jR (cB (dF h_8)) <| jx <| jb <| jb <| jy <| jB <| jC <| jF <| jA (jD (v := .slice oa o_.length oc) he_6) <| jK (LO.toStr 0 o_ rfl kr kv kg rfl rfl) ?_
    refine jA (jG (v := str o_) rfl) <| jA (jG (v := .bool true) rfl) <| jE <| jB <| jN <| kC (.inl rfl) rfl (jJ (v := str o_) rfl) (jJ (v := .bool true) rfl) (List.nil_sublist _) ?_
    exact ⟨o_, true, (unhex_some (by rw [List.drop_of_length_le (by omega)] at hR; exact hR.symm.trans (by simp [unhexL])) (by omega)), (by first | omega | (simp only [LE]; omega)), rfl, rfl⟩
  refine jW (cB (cN (dF h_2))) <| jC <| jF <| jA (jG (v := str []) rfl) <| jA (jG (v := .bool false) rfl) <| jE <| jB <| jN <| jX <| kC (.inl rfl) rfl (jJ (v := str []) rfl) (jJ (v := .bool false) rfl) (List.nil_sublist _) ?_
  exact ⟨[], false, (by first | exact unhex_bad (by omega) | exact unhex_some (by rw [List.drop_of_length_le (by omega)] at hR; rw [← hR]; simp [unhexL]) (by assumption) | exact unhex_none (by rw [unhexL_step (by omega)] at hR; simp only [if_true] at hR; rw [if_pos (by omega)] at hR; exact hR.symm)), (by first | omega | (simp only [LE]; omega)), rfl, rfl⟩

end Go.Proofs.YtjncpgcccgdeiaaGreatDoor

set_option linter.unusedSimpArgs false
set_option linter.unusedVariables false
set_option linter.unnecessarySimpa false
namespace Go.Proofs.YtjncpgcccgdeiaaGreatDoor
open Go Go.RowKit
/-- The parts of a text between signs. -/
def splitB (c : UInt8) : Str → List Str
  | [] => [[]]
  | x :: s => if x = c then [] :: splitB c s else (x :: (splitB c s).headD []) :: (splitB c s).tail
theorem splitB_ne (c : UInt8) : ∀ s, splitB c s ≠ []
  | [] => by simp [splitB]
  | x :: s => by unfold splitB; split <;> simp
theorem splitB_at (c : UInt8) : ∀ (a s : Str), (∀ x ∈ a, x ≠ c) → splitB c (a ++ c :: s) = a :: splitB c s
  | [], s, _ => by simp [splitB]
  | x :: a, s, h => by
    have ih := splitB_at c a s fun y hy => h y (List.mem_cons_of_mem _ hy)
    rw [List.cons_append, splitB, if_neg (h x (List.mem_cons_self ..)), ih]
    rfl
theorem splitB_one (c : UInt8) : ∀ a : Str, (∀ x ∈ a, x ≠ c) → splitB c a = [a]
  | [], _ => rfl
  | x :: a, h => by
    have ih := splitB_one c a fun y hy => h y (List.mem_cons_of_mem _ hy)
    rw [splitB, if_neg (h x (List.mem_cons_self ..)), ih]
    rfl
/-- What lies before and behind the first sign; all and nothing without one. -/
def cutB (c : UInt8) : Str → Str × Str
  | [] => ([], [])
  | x :: s => if x = c then ([], s) else (x :: (cutB c s).1, (cutB c s).2)
theorem splitB_single (c : UInt8) : ∀ (t q : Str), splitB c t = [q] → t = q
  | [], q, h => by simp only [splitB, List.cons.injEq, and_true] at h; exact h
  | y :: t, q, h => by
    unfold splitB at h
    split at h
    · simp only [List.cons.injEq] at h; exact absurd h.2 (splitB_ne c t)
    · simp only [List.cons.injEq] at h
      obtain ⟨rfl, h2⟩ := h
      cases hs : splitB c t with
      | nil => exact absurd hs (splitB_ne c t)
      | cons p r =>
        rw [hs] at h2
        simp only [List.tail_cons] at h2
        subst h2
        rw [splitB_single c t p hs]
        rfl
theorem cutB_two (c : UInt8) : ∀ (w q0 q1 : Str), splitB c w = [q0, q1] → cutB c w = (q0, q1)
  | [], q0, q1, h => by simp [splitB] at h
  | x :: s, q0, q1, h => by
    unfold splitB at h
    unfold cutB
    split at h
    · rename_i hx
      rw [if_pos hx]
      simp only [List.cons.injEq] at h
      obtain ⟨rfl, h⟩ := h
      rw [splitB_single c s q1 h]
    · rename_i hx
      rw [if_neg hx]
      simp only [List.cons.injEq] at h
      obtain ⟨rfl, h2⟩ := h
      cases hs : splitB c s with
      | nil => exact absurd hs (splitB_ne c s)
      | cons p r =>
        rw [hs] at h2
        simp only [List.tail_cons] at h2
        subst h2
        rw [cutB_two c s p q1 hs]
        rfl
theorem drop_no {s : Str} {c : UInt8} {b i : Nat} (hi : i ≤ s.length) (hN : ∀ k, b ≤ k → k < i → s.getD k 0 ≠ c) : ∀ x ∈ (s.drop b).take (i - b), x ≠ c := by
  intro x hx
  obtain ⟨k, hk, rfl⟩ := List.getElem_of_mem hx
  have hk' : k < (s.drop b).length ∧ k < i - b := by rw [List.length_take] at hk; omega
  rw [List.length_drop] at hk'
  have := hN (b + k) (by omega) (by omega)
  rw [List.getD_eq_getElem?_getD, List.getElem?_eq_getElem (by omega)] at this
  simpa using this
theorem split_cut {s : Str} {c : UInt8} {b i : Nat} (hi : i < s.length) (hb : b ≤ i) (hN : ∀ k, b ≤ k → k < i → s.getD k 0 ≠ c) (hc : s.getD i 0 = c) : splitB c (s.drop b) = (s.drop b).take (i - b) :: splitB c (s.drop (i + 1)) := by
  have e : s.drop b = (s.drop b).take (i - b) ++ c :: s.drop (i + 1) := by
    have h1 := (List.take_append_drop (i - b) (s.drop b)).symm
    rw [List.drop_drop, show b + (i - b) = i by omega, drop_at (getD_some (d := 0) hi), hc] at h1
    exact h1
  have h2 := splitB_at c ((s.drop b).take (i - b)) (s.drop (i + 1)) (drop_no (by omega) hN)
  rw [← e] at h2
  exact h2
theorem split_end {s : Str} {c : UInt8} {b : Nat} (hN : ∀ k, b ≤ k → k < s.length → s.getD k 0 ≠ c) : splitB c (s.drop b) = [(s.drop b).take (s.length - b)] := by
  have e : (s.drop b).take (s.length - b) = s.drop b := List.take_of_length_le (by rw [List.length_drop]; omega)
  have h := splitB_one c _ (drop_no (c := c) (b := b) (Nat.le_refl _) hN)
  rw [e] at h ⊢
  exact h
theorem u8_eq {a c : UInt8} (h : ((a.toNat : Nat) : Int) = ((c.toNat : Nat) : Int)) : a = c := UInt8.toNat_inj.1 (by omega)
theorem u8_ne {a c : UInt8} (h : ¬ ((a.toNat : Nat) : Int) = ((c.toNat : Nat) : Int)) : a ≠ c := fun e => h (by rw [e])
/- a record's text -/
def sumF (n : Nat) : Str → Nat
  | [] => n
  | c :: s => sumF ((31 * n + c.toNat) % 9973) s
def byteSum (s : Str) : Nat := sumF 7 s
theorem sumF_lo : ∀ (s : Str) (n : Nat), n ≤ 9972 → sumF n s ≤ 9972
  | [], n, h => h
  | c :: s, n, h => sumF_lo s _ (by omega)
theorem byteSum_lo (s : Str) : byteSum s ≤ 9972 := sumF_lo s 7 (by omega)
theorem sumF_step {s : Str} {n j : Nat} (h : j < s.length) : sumF n (s.drop j) = sumF ((31 * n + (s.getD j 0).toNat) % 9973) (s.drop (j + 1)) := by
  rw [drop_at (getD_some (d := 0) h), sumF]
theorem keyOk_len {k : Str} (h : keyOk k = true) : k.length ≤ 40 := by
  simp only [keyOk, Bool.and_eq_true, decide_eq_true_eq] at h
  exact h.2
def recRow (c : Cell) : Str := [32] ++ hexB c.1 ++ [61] ++ hexB c.2
def recBad (b : Str) (c : Cell) : Bool := !keyOk c.1 || (decide ((60 : Int) < ((c.2.length : Nat) : Int)) || decide ((4000 : Int) < ((b.length : Nat) : Int)))
def recEnd (b : Str) : Str := if (4000 : Int) < (((b ++ [32, 35] ++ dec ((byteSum b : Nat) : Int) ++ [10]).length : Nat) : Int) then [] else b ++ [32, 35] ++ dec ((byteSum b : Nat) : Int) ++ [10]
def recGo : Str → List Cell → Str
  | b, [] => recEnd b
  | b, c :: l => if recBad b c = true then [] else recGo (b ++ recRow c) l
def recText (seq : Int) (l : List Cell) : Str := if within 1 seq 100000 = true then recGo (dec seq) l else []
theorem recGo_step {l : List Cell} {b : Str} {j : Nat} (h : j < l.length) : recGo b (l.drop j) = if recBad b (l.getD j c0) = true then [] else recGo (b ++ recRow (l.getD j c0)) (l.drop (j + 1)) := by
  rw [drop_at (getD_some (d := c0) h), recGo]
theorem recGo_some : ∀ (l : List Cell) (b : Str), recGo b l ≠ [] → ∃ b', b' = b ++ l.flatMap recRow ∧ recGo b l = b' ++ [32, 35] ++ dec ((byteSum b' : Nat) : Int) ++ [10]
  | [], b, h => by
    refine ⟨b, by simp, ?_⟩
    unfold recGo recEnd at *
    split at h
    · exact absurd rfl h
    · rename_i hn; rw [if_neg hn]
  | c :: l, b, h => by
    unfold recGo at h ⊢
    split at h
    · exact absurd rfl h
    · rename_i hn
      rw [if_neg hn]
      obtain ⟨b', e, h2⟩ := recGo_some l _ h
      exact ⟨b', by rw [e, List.flatMap_cons, List.append_assoc], h2⟩
theorem hexFig_ne (x : Nat) (h : x < 16) : hexFig x ≠ 32 ∧ hexFig x ≠ 61 ∧ hexFig x ≠ 10 := by
  have : ∀ k : Fin 16, hexFig k.val ≠ 32 ∧ hexFig k.val ≠ 61 ∧ hexFig k.val ≠ 10 := by decide
  exact this ⟨x, h⟩
theorem hexB_ne : ∀ (s : Str) (x : UInt8), x ∈ hexB s → x ≠ 32 ∧ x ≠ 61 ∧ x ≠ 10
  | [], x, h => by cases h
  | c :: s, x, h => by
    have hc := c.toNat_lt
    simp only [hexB, List.mem_cons] at h
    rcases h with rfl | rfl | h
    · exact hexFig_ne _ (by omega)
    · exact hexFig_ne _ (by omega)
    · exact hexB_ne s x h
theorem split_rows : ∀ (l : List Cell) (a e : Str), (∀ x ∈ a, x ≠ 32) → (∀ x ∈ e, x ≠ 32) → splitB 32 (a ++ l.flatMap recRow ++ 32 :: e) = a :: (l.map fun c => hexB c.1 ++ [61] ++ hexB c.2) ++ [e]
  | [], a, e, ha, he => by
    rw [List.flatMap_nil, List.append_nil, splitB_at 32 a e ha, splitB_one 32 e he]
    rfl
  | c :: l, a, e, ha, he => by
    have ih := split_rows l (hexB c.1 ++ [61] ++ hexB c.2) e (fun x hx => by
      simp only [List.mem_append, List.mem_singleton] at hx
      rcases hx with (hx | rfl) | hx
      · exact (hexB_ne _ _ hx).1
      · decide
      · exact (hexB_ne _ _ hx).1) he
    have : a ++ (c :: l).flatMap recRow ++ 32 :: e = a ++ 32 :: ((hexB c.1 ++ [61] ++ hexB c.2) ++ l.flatMap recRow ++ 32 :: e) := by
      simp only [List.flatMap_cons, recRow, List.append_assoc, List.cons_append, List.nil_append, List.singleton_append]
    rw [this, splitB_at 32 a _ ha, ih]
    rfl
theorem split_mid (c : Cell) : splitB 61 (hexB c.1 ++ [61] ++ hexB c.2) = [hexB c.1, hexB c.2] := by
  rw [List.append_assoc, List.singleton_append, splitB_at 61 _ _ fun x hx => (hexB_ne _ _ hx).2.1, splitB_one 61 _ fun x hx => (hexB_ne _ _ hx).2.1]
theorem digits_no : ∀ (f k : Nat), k ≤ f → ∀ x ∈ Lib.decDigits k, 48 ≤ x.toNat ∧ x.toNat ≤ 57 := by
  have fig : ∀ k, k < 10 → 48 ≤ (UInt8.ofNat (48 + k)).toNat ∧ (UInt8.ofNat (48 + k)).toNat ≤ 57 := fun k hk => by
    have : ∀ q : Fin 10, 48 ≤ (UInt8.ofNat (48 + q.val)).toNat ∧ (UInt8.ofNat (48 + q.val)).toNat ≤ 57 := by decide
    exact this ⟨k, hk⟩
  intro f
  induction f with
  | zero =>
    intro k hk x hx
    rw [Lib.decDigits, dif_pos (by omega), List.mem_singleton] at hx
    subst hx
    exact fig k (by omega)
  | succ f ih =>
    intro k hk x hx
    rw [Lib.decDigits] at hx
    split at hx
    · rw [List.mem_singleton] at hx
      subst hx
      exact fig k (by omega)
    · rcases List.mem_append.1 hx with hx | hx
      · exact ih (k / 10) (by omega) x hx
      · rw [List.mem_singleton] at hx
        subst hx
        exact fig (k % 10) (by omega)
theorem dec_no32 {n : Int} (h : 0 ≤ n) : ∀ x ∈ dec n, x ≠ 32 := by
  intro x hx
  unfold dec Lib.itoa at hx
  rw [if_neg (by omega)] at hx
  have := digits_no _ _ (Nat.le_refl _) x hx
  rintro rfl
  revert this
  decide
/- reading a record -/
def readWord (w : Str) : Cell := ((unhex (cutB 61 w).1).1, (unhex (cutB 61 w).2).1)
def midsOf (p : List Str) : List Str := (p.drop 1).take (p.length - 2)
def readI (t : Str) : Int × List Cell × Bool :=
  if (4000 : Int) < ((t.length : Nat) : Int) then (0, [], false)
  else if t = [] ∨ recText (readDec ((splitB 32 t).getD 0 [])).1 ((midsOf (splitB 32 t)).map readWord) ≠ t then (0, [], false)
  else ((readDec ((splitB 32 t).getD 0 [])).1, (midsOf (splitB 32 t)).map readWord, true)
def readS (t : Str) : Int × List Cell × Bool :=
  if (4000 : Int) < ((t.length : Nat) : Int) then (0, [], false)
  else if ∃ w ∈ midsOf (splitB 32 t), (splitB 61 w).length ≠ 2 then (0, [], false)
  else if (readDec ((splitB 32 t).getD 0 [])).2 = false ∨ recText (readDec ((splitB 32 t).getD 0 [])).1 ((midsOf (splitB 32 t)).map readWord) = [] ∨ recText (readDec ((splitB 32 t).getD 0 [])).1 ((midsOf (splitB 32 t)).map readWord) ≠ t then (0, [], false)
  else ((readDec ((splitB 32 t).getD 0 [])).1, (midsOf (splitB 32 t)).map readWord, true)
theorem mids_rec {seq : Int} {l : List Cell} {t : Str} (h : recText seq l = t) (ht : t ≠ []) : midsOf (splitB 32 t) = l.map fun c => hexB c.1 ++ [61] ++ hexB c.2 := by
  unfold recText at h
  split at h
  · rename_i hw
    have hw := (show 1 ≤ seq ∧ seq ≤ 100000 by simpa only [within, Bool.and_eq_true, decide_eq_true_eq] using hw)
    obtain ⟨b, hb, he⟩ := recGo_some l (dec seq) (by rw [h]; exact ht)
    have hs := byteSum_lo b
    have e : t = dec seq ++ l.flatMap recRow ++ 32 :: (35 :: dec ((byteSum b : Nat) : Int) ++ [10]) := by
      rw [← h, he, hb]
      simp only [List.append_assoc, List.cons_append, List.nil_append]
    rw [e, split_rows l (dec seq) _ (dec_no32 (by omega)) (fun x hx => by
      simp only [List.cons_append, List.mem_cons, List.mem_append, List.not_mem_nil, or_false] at hx
      rcases hx with rfl | hx | rfl
      · decide
      · exact dec_no32 (Int.natCast_nonneg _) x hx
      · decide)]
    unfold midsOf
    simp only [List.cons_append, List.drop_succ_cons, List.drop_zero, List.length_cons, List.length_append, List.length_map, List.length_nil]
    rw [show l.length + (0 + 1) + 1 - 2 = (l.map fun c => hexB c.1 ++ [61] ++ hexB c.2).length by rw [List.length_map]; omega]
    rw [List.take_append_of_le_length (Nat.le_refl _), List.take_length]
  · exact absurd h.symm ht
theorem readS_eq (t : Str) : readS t = readI t := by
  unfold readS readI
  split
  · rfl
  · by_cases hm : ∃ w ∈ midsOf (splitB 32 t), (splitB 61 w).length ≠ 2
    · rw [if_pos hm]
      symm
      refine if_pos ?_
      by_cases ht : t = []
      · exact .inl ht
      · refine .inr fun hr => ?_
        obtain ⟨w, hw, h2⟩ := hm
        rw [mids_rec hr ht] at hw
        obtain ⟨c, _, rfl⟩ := List.mem_map.1 hw
        rw [split_mid c] at h2
        exact h2 rfl
    · rw [if_neg hm]
      by_cases hr : recText (readDec ((splitB 32 t).getD 0 [])).1 ((midsOf (splitB 32 t)).map readWord) = t
      · by_cases ht : t = []
        · rw [if_pos (.inr (.inl (hr.trans ht))), if_pos (.inl ht)]
        · rw [if_neg (c := t = [] ∨ _) (by rintro (h | h); exact ht h; exact h hr)]
          refine if_neg ?_
          rintro (h | h | h)
          · have h0 := readDec_no h
            rw [h0] at hr
            exact ht hr.symm
          · exact ht (hr.symm.trans h)
          · exact h hr
      · rw [if_pos (.inr (.inr hr)), if_pos (.inr hr)]
theorem splitB_len (c : UInt8) : ∀ s : Str, (splitB c s).length ≤ s.length + 1 ∧ 1 ≤ (splitB c s).length
  | [] => ⟨by simp [splitB], by simp [splitB]⟩
  | x :: s => by
    have ih := splitB_len c s
    unfold splitB
    split
    · simp only [List.length_cons]; omega
    · simp only [List.length_cons, List.length_tail]; omega
theorem splitB_mem (c : UInt8) : ∀ (s x : Str), x ∈ splitB c s → x.length ≤ s.length
  | [], x, h => by simp [splitB] at h; simp [h]
  | y :: s, x, h => by
    unfold splitB at h
    split at h
    · rcases List.mem_cons.1 h with rfl | h
      · simp
      · have := splitB_mem c s x h; simp only [List.length_cons]; omega
    · rcases List.mem_cons.1 h with rfl | h
      · cases hs : splitB c s with
        | nil => simp
        | cons p r =>
          have := splitB_mem c s p (by rw [hs]; exact List.mem_cons_self ..)
          simp only [List.headD_cons, List.length_cons]; omega
      · have := splitB_mem c s x (List.mem_of_mem_tail h); simp only [List.length_cons]; omega
theorem splitB_get (c : UInt8) (s : Str) (k : Nat) : ((splitB c s).getD k []).length ≤ s.length := by
  by_cases h : k < (splitB c s).length
  · exact splitB_mem c s _ (getD_mem h)
  · rw [List.getD_eq_getElem?_getD, List.getElem?_eq_none (by omega)]; exact Nat.zero_le _
theorem readWord_two {w : Str} (h : (splitB 61 w).length = 2) : readWord w = ((unhex ((splitB 61 w).getD 0 [])).1, (unhex ((splitB 61 w).getD 1 [])).1) := by
  match hs : splitB 61 w, h with
  | [q0, q1], _ => rw [readWord, cutB_two 61 w q0 q1 hs]; rfl
theorem okC_read {l : List Str} (h : l.length ≤ 1000000) : okC (l.map readWord) := ⟨by rw [List.length_map]; omega, fun j hj => by
  rw [List.length_map] at hj
  rw [List.getD_eq_getElem?_getD, List.getElem?_eq_getElem (by rw [List.length_map]; exact hj)]
  simp only [List.getElem_map, Option.getD_some, readWord]
  have h1 := unhex_len (cutB 61 l[j]).1
  have h2 := unhex_len (cutB 61 l[j]).2
  exact ⟨by omega, by omega⟩⟩
theorem readS_long {t : Str} (h : (4000 : Int) < ((t.length : Nat) : Int)) : readS t = (0, [], false) := if_pos h
theorem mids_get {p : List Str} {k : Nat} (h1 : 1 ≤ k) (h2 : k + 1 < p.length) : p.getD k [] ∈ midsOf p := by
  unfold midsOf
  rw [List.mem_iff_getElem]
  refine ⟨k - 1, by rw [List.length_take, List.length_drop]; omega, ?_⟩
  rw [List.getElem_take, List.getElem_drop, List.getD_eq_getElem?_getD, List.getElem?_eq_getElem (by omega)]
  simp only [Option.getD_some]
  congr 1
  omega
theorem readS_mid {t : Str} {i : Nat} (h4 : ¬ (4000 : Int) < ((t.length : Nat) : Int)) (h1 : 1 ≤ i) (h2 : i + 1 < (splitB 32 t).length) (h : ¬ (splitB 61 ((splitB 32 t).getD i [])).length = 2) : readS t = (0, [], false) := by
  unfold readS
  rw [if_neg h4, if_pos ⟨_, mids_get h1 h2, h⟩]
theorem readS_end {t : Str} {i : Nat} (h4 : ¬ (4000 : Int) < ((t.length : Nat) : Int)) (hi : i - 1 = (splitB 32 t).length - 2) (hN : ∀ k, 1 ≤ k → k < i → (splitB 61 ((splitB 32 t).getD k [])).length = 2) :
    readS t = if (readDec ((splitB 32 t).getD 0 [])).2 = false ∨ recText (readDec ((splitB 32 t).getD 0 [])).1 ((((splitB 32 t).drop 1).take (i - 1)).map readWord) = [] ∨ recText (readDec ((splitB 32 t).getD 0 [])).1 ((((splitB 32 t).drop 1).take (i - 1)).map readWord) ≠ t then (0, [], false)
      else ((readDec ((splitB 32 t).getD 0 [])).1, (((splitB 32 t).drop 1).take (i - 1)).map readWord, true) := by
  unfold readS
  rw [if_neg h4, hi, if_neg]
  · rfl
  · rintro ⟨w, hw, h⟩
    unfold midsOf at hw
    obtain ⟨k, hk, rfl⟩ := List.getElem_of_mem hw
    rw [List.length_take, List.length_drop] at hk
    have := hN (k + 1) (by omega) (by omega)
    rw [List.getD_eq_getElem?_getD, List.getElem?_eq_getElem (by omega)] at this
    apply h
    rw [List.getElem_take, List.getElem_drop]
    simpa [Nat.add_comm] using this
theorem mids_step {p : List Str} {i : Nat} (h1 : 1 ≤ i) (h2 : i + 1 < p.length) : ((p.drop 1).take (i + 1 - 1)).map readWord = ((p.drop 1).take (i - 1)).map readWord ++ [readWord (p.getD i [])] := by
  rw [show i + 1 - 1 = (i - 1) + 1 by omega, take_at (v := p.getD i []) ?_, List.map_append]
  · rfl
  · rw [List.getElem?_drop, show 1 + (i - 1) = i by omega, List.getD_eq_getElem?_getD, List.getElem?_eq_getElem (by omega)]
    rfl
/- lines -/
def linesG (b : Str) : Str → List Str
  | [] => []
  | c :: s => if c = 10 then (b ++ [c]) :: linesG [] s else linesG (b ++ [c]) s
def linesOf (t : Str) : List Str := linesG [] t
theorem front_snoc {s : Str} {b i : Nat} (hi : i < s.length) (hb : b ≤ i) : (s.drop b).take (i + 1 - b) = (s.drop b).take (i - b) ++ [s.getD i 0] := by
  rw [show i + 1 - b = (i - b) + 1 by omega]
  refine take_at ?_
  rw [List.getElem?_drop, show b + (i - b) = i by omega]
  exact getD_some hi
theorem lines_step {s : Str} {b i : Nat} (hi : i < s.length) (hb : b ≤ i) : linesG ((s.drop b).take (i - b)) (s.drop i) = if s.getD i 0 = 10 then (s.drop b).take (i + 1 - b) :: linesG ((s.drop (i + 1)).take (i + 1 - (i + 1))) (s.drop (i + 1)) else linesG ((s.drop b).take (i + 1 - b)) (s.drop (i + 1)) := by
  conv => lhs; rw [drop_at (getD_some (d := 0) hi), linesG]
  rw [front_snoc hi hb, Nat.sub_self, List.take_zero]
theorem u8_ten {a : UInt8} (h : ((a.toNat : Nat) : Int) = 10) : a = 10 := u8_eq (c := 10) h
theorem u8_not10 {a : UInt8} (h : ¬ ((a.toNat : Nat) : Int) = 10) : ¬ a = 10 := fun e => h (by rw [e]; rfl)
end Go.Proofs.YtjncpgcccgdeiaaGreatDoor

set_option linter.unusedSimpArgs false
set_option linter.unusedVariables false
set_option linter.unnecessarySimpa false
namespace Go.Proofs.YtjncpgcccgdeiaaGreatDoor
open Go Go.RowKit
section
variable {P : Program} {ops : Array Oper} {Q : Exit → Act → World → Prop} {n : Nat} {w0 w : World} {D : List Nat} {L : List Res} {e : Env}
variable {d : Option Tmp} {ty : TypeId} {pos : String} {aft : Array Edge} {gd : Option (Nat × Bool)}
theorem Src.str {P : Program} {w : World} (s : Str) : Src P w 1 s.length (str s) (s.map encB) := by
  have hz : (ByteArray.mk s.toArray).size = s.length := by simp [ByteArray.size]
  refine ⟨fun w' _ => ?_, ?_, by simp, ?_⟩
  · have e := Lib.run_firstCells_string (P := P) w' 1 (ByteArray.mk s.toArray)
    rw [hz] at e
    refine e.trans ?_
    rfl
  · show (pure (ByteArray.mk s.toArray).size : Sem Nat).run P w = _
    rw [hz]
    rfl
  · intro u hu
    obtain ⟨c, _, rfl⟩ := List.mem_map.1 hu
    rfl
theorem JO.appendS (i : Nat) {t u el k m c q by' : Nat} {x y : Operand} {vy : Value} {a : Option Addr} {cs news : List Value} {ti : TypeInfo} {z : Value}
    (hL : L[i]? = some (.row (.slice a m c) el k m cs)) (ht : P.underlying t = some (.slice el)) (hu : P.underlying u = some .string)
    (hti : ∀ w, (typeInfo el).run P w = .ok ti w) (hk : ti.size = k) (hby : ti.bytes = by') (hz : ti.zero = some z) (hzc : z.cells.size = k)
    (hx : rd n e x = .slice a m c) (hy : rd n e y = vy) (hsrc : ∀ w, St w0 D L w → Src P w k q vy news) (hb : (m + q) * by' ≤ 140737488355328) (hmax : m + q ≤ 9223372036854775807) :
    JO P n w0 D L e ⟨d, .call ⟨.builtin .append, #[x, y], #[t, u]⟩, ty, pos, aft, gd⟩ (fun v L' => ∃ a' c', v = .slice a' (m + q) c' ∧ L' = L.set i (.row (.slice a' (m + q) c') el k (m + q) (cs ++ news))) := JO.ofRun fun w hw => by
  have hrow := hw.get hL
  obtain ⟨hnf, hlen, hnl, hone⟩ := hsrc w hw
  have hnews := hnf w rfl
  have hnewsD : (Builtin.firstCells k q vy).run P w.drew = .ok news.toArray w.drew := hnf w.drew rfl
  have h63 : ¬ (9223372036854775807 < ((m : Int) + (q : Int))) := by omega
  have hsl : cs.length = m * k := hrow.1
  by_cases hroom : m + q ≤ c
  · rcases hrow.2 with ⟨hv, h0⟩ | ⟨g, cap, cur, hv, hg0, hg, h1, h2, h3, h4⟩
    · simp only [Value.slice.injEq] at hv
      obtain ⟨rfl, rfl, rfl⟩ := hv
      have hq : q = 0 := by omega
      subst hq
      have hn0 : news = [] := by simpa using hnl
      subst hn0
      refine ⟨_, _, w, ?_, ⟨none, 0, rfl, rfl⟩, ?_⟩
      · simp [execOp, resolve, invoke, builtin, hx, hy, Builtin.append_, run_underlying ht, run_underlying hu, sizeOf, hti, hk, hlen, hnews]
      · have : L.set i (.row (.slice none (0 + 0) 0) el k (0 + 0) (cs ++ [])) = L := by
          rw [List.append_nil]
          exact List.ext_getElem? fun j => by
            rw [List.getElem?_set]
            split
            · rename_i hij; subst hij; split <;> simp_all
            · rfl
        rw [this]; exact hw
    · simp only [Value.slice.injEq] at hv
      obtain ⟨rfl, _, rfl⟩ := hv
      have hfit : m * k + 0 + news.length ≤ cur.size := by
        refine Nat.le_trans ?_ h3
        rw [hnl, Nat.add_zero, ← Nat.add_mul]; exact Nat.mul_le_mul_right _ hroom
      have hst := run_storeCells_R P g (m * k) el news 0 cur w hg hfit hone
      simp only [Nat.add_zero] at hst
      refine ⟨_, _, w.setRow g (cur.toList.take (m * k) ++ news ++ cur.toList.drop (m * k + news.length)).toArray, ?_, ⟨some ⟨g, 0, none⟩, c, rfl, rfl⟩, ?_⟩
      · simp [execOp, resolve, invoke, builtin, hx, hy, Builtin.append_, run_underlying ht, run_underlying hu, sizeOf, hti, hk, hlen, hnews, hroom, add_lit, hst]
      · refine hw.turn1 hL rfl rfl rfl (by simp) (fun q' _ hq' => setRow_other w g q' _ (by simpa [Res.ids, Value.ownBlock] using hq')) ?_ (by simp [Res.ids, Value.ownBlock]) (fun q' hq' => .inl (by simpa [Res.ids, Value.ownBlock] using hq'))
        refine ⟨by rw [List.length_append, hsl, hnl, Nat.add_mul], .inr ⟨g, c, _, rfl, hg0, hg.setRow (by simp only [List.size_toArray, List.length_append, List.length_take, List.length_drop, Array.length_toList]; omega), hroom, h2, ?_, ?_⟩⟩
        · simp only [List.size_toArray, List.length_append, List.length_take, List.length_drop, Array.length_toList]
          omega
        · rw [h4, List.append_assoc, ← List.append_assoc cs]
          rw [List.take_append_of_le_length (by rw [List.length_append, hsl, hnl, Nat.add_mul]; exact Nat.le_refl _)]
          exact List.take_of_length_le (by rw [List.length_append, hsl, hnl, Nat.add_mul]; exact Nat.le_refl _)
  · have hnr : ¬ (m + q ≤ c) := hroom
    have h48 : ¬ (281474976710656 < Builtin.nextslicecap (m + q) c * by') := by
      have := growslice_fits (need := m + q) (old := c) (bytes := by') (by omega) hb
      omega
    have hold : (Builtin.firstCells k m (.slice a m c)).run P w.drew = .ok cs.toArray w.drew := by
      rcases hrow.2 with ⟨hv, h0⟩ | ⟨g, cap, cur, hv, hg0, hg, h1, h2, h3, h4⟩
      · simp only [Value.slice.injEq] at hv
        obtain ⟨rfl, rfl, rfl⟩ := hv
        simp only [Nat.zero_mul, List.length_eq_zero_iff] at hsl
        subst hsl
        simp [Builtin.firstCells]
      · simp only [Value.slice.injEq] at hv
        obtain ⟨rfl, _, rfl⟩ := hv
        refine run_firstCells_some w.drew k m ⟨g, 0, none⟩ m c cs hsl fun j v hj => ?_
        obtain ⟨g', hg', hc'⟩ := row_cell hrow hj
        simp only [Option.some.injEq, Addr.mk.injEq, and_true] at hg'
        rw [add_lit, Nat.zero_add, hg', World.cell?_drew]
        exact hc'
    have hgc := grownCap_ge w (m + q) c el
    have hgm := grownCap_le_maxLen w (m + q) c el (by unfold maxLen; omega)
    have hrest : (Builtin.zeroCells z.cells (grownCap w (m + q) c el - (m + q))).size = (grownCap w (m + q) c el - (m + q)) * k := by rw [size_zeroCells, hzc]
    have hst := (hw.drew).turn (A := [.row (.slice a m c) el k m cs]) (F := L.eraseIdx i)
      (A' := [.row (.slice (some ⟨w.heap.size, 0, none⟩) (m + q) (grownCap w (m + q) c el)) el k (m + q) (cs ++ news)])
      (w' := w.drew.alloc (.cells (cs.toArray ++ news.toArray ++ Builtin.zeroCells z.cells (grownCap w (m + q) c el - (m + q))) el))
      (perm_set i _ (.row (.slice a m c) el k m cs) hL).1 rfl rfl rfl (by simp) (fun q' hq' _ => Below.heap_alloc _ _ _ hq') (by
        intro r hr
        simp only [List.mem_singleton] at hr
        subst hr
        refine ⟨by rw [List.length_append, hsl, hnl, Nat.add_mul], .inr ⟨w.heap.size, _, _, rfl, Nat.zero_le _, CellsAt.new w.drew _ _, hgc, hgm, ?_, ?_⟩⟩
        · refine Nat.le_of_eq (Eq.symm ?_)
          simp only [Array.size_append, List.size_toArray, hsl, hnl, hrest]
          rw [← Nat.add_mul, ← Nat.add_mul]
          congr 1
          omega
        · simp only [Array.toList_append]
          rw [List.take_append_of_le_length (by rw [List.length_append, hsl, hnl, Nat.add_mul]; exact Nat.le_refl _)]
          exact List.take_of_length_le (by rw [List.length_append, hsl, hnl, Nat.add_mul]; exact Nat.le_refl _)) (by simp [idsOf, Res.ids, Value.ownBlock]) (by
        intro j hj
        simp only [idsOf, Res.ids, Value.ownBlock, List.flatMap_cons, List.flatMap_nil, List.append_nil, Option.mem_toList, Option.some.injEq] at hj
        exact .inr (by rw [← hj]; exact Nat.le_refl _))
    refine ⟨_, _, _, ?_, ⟨some ⟨w.heap.size, 0, none⟩, grownCap w (m + q) c el, rfl, rfl⟩, hst.perm (perm_set i _ _ hL).2⟩
    have h63' : ¬ (9223372036854775807 < ((m : Int) + (q : Int))) := h63
    simp [execOp, resolve, invoke, builtin, hx, hy, Builtin.append_, run_underlying ht, run_underlying hu, sizeOf, hti, hk, hby, hz, hlen, hnr, h63, h48, Question.forced, hold, hnewsD, newRow, zeroValue, grownCap]
    congr 2
    apply Array.ext'
    simp [List.append_assoc]
theorem JO.appendS' (i : Nat) {t u el k m c q by' n' : Nat} {x y : Operand} {vy : Value} {a : Option Addr} {cs news cs' : List Value} {ti : TypeInfo} {z : Value}
    (hL : L[i]? = some (.row (.slice a m c) el k m cs)) (ht : P.underlying t = some (.slice el)) (hu : P.underlying u = some .string)
    (hti : ∀ w, (typeInfo el).run P w = .ok ti w) (hk : ti.size = k) (hby : ti.bytes = by') (hz : ti.zero = some z) (hzc : z.cells.size = k)
    (hx : rd n e x = .slice a m c) (hy : rd n e y = vy) (hsrc : ∀ w, St w0 D L w → Src P w k q vy news) (hb : (m + q) * by' ≤ 140737488355328) (hmax : m + q ≤ 9223372036854775807) (hn : m + q = n') (hc : cs ++ news = cs') :
    JO P n w0 D L e ⟨d, .call ⟨.builtin .append, #[x, y], #[t, u]⟩, ty, pos, aft, gd⟩ (fun v L' => ∃ a' c', v = .slice a' n' c' ∧ L' = L.set i (.row (.slice a' n' c') el k n' cs')) := by
  subst hn; subst hc
  exact JO.appendS i hL ht hu hti hk hby hz hzc hx hy hsrc hb hmax
end
end Go.Proofs.YtjncpgcccgdeiaaGreatDoor
