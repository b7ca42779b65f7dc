/-
Texts of the walk, joined: what each one proves stands at its theorems.
-/
import Derived.Test.YthlfmbbaomdciaaGreatDoorB0S14MACH
import Derived.Lib.HexFns2
import Derived.Lib.ConvBytes
set_option linter.unusedSimpArgs false
set_option linter.unusedVariables false
set_option linter.unnecessarySimpa false
namespace Go.Proofs.YthlfmbbaomdciaaGreatDoor
open Go Go.RowKit
theorem digit_fin : ∀ d : Fin 16, Lib.Hx.digit d.val = hexFig d.val := by decide +kernel
theorem hexVal_fin : ∀ n : Fin 16, hexVal (hexFig n.val) = some n.val := by decide +kernel
theorem byte_fin : ∀ c : Fin 256, (match hexVal (UInt8.ofNat c.val) with | some n => decide (n < 16) && decide (Lib.Hx.v (UInt8.ofNat c.val) = n) && decide (hexFig n = UInt8.ofNat c.val) | none => true) = true := by decide +kernel
theorem hexVal_some {c : UInt8} {n : Nat} (h : hexVal c = some n) : n < 16 ∧ Lib.Hx.v c = n ∧ hexFig n = c := by
 have := byte_fin ⟨c.toNat, UInt8.toNat_lt c⟩
 rw [show UInt8.ofNat (⟨c.toNat, UInt8.toNat_lt c⟩ : Fin 256).val = c from UInt8.ofNat_toNat] at this
 rw [h] at this
 simp only [Bool.and_eq_true, decide_eq_true_eq] at this
 exact ⟨this.1.1, this.1.2, this.2⟩
theorem encode_hexB : ∀ l : Str, Lib.Hx.encode l = hexB l
 | [] => rfl
 | c :: l => by
   have hc := UInt8.toNat_lt c
   rw [Lib.Hx.encode_cons, hexB, encode_hexB l, digit_fin ⟨c.toNat / 16, by omega⟩, digit_fin ⟨c.toNat % 16, by omega⟩]
theorem unhexL_hexB : ∀ r : Str, unhexL (hexB r) = some r
 | [] => rfl
 | c :: r => by
   have hc := UInt8.toNat_lt c
   rw [hexB, unhexL, hexVal_fin ⟨c.toNat / 16, by omega⟩, hexVal_fin ⟨c.toNat % 16, by omega⟩, unhexL_hexB r]
   simp only
   rw [show 16 * (c.toNat / 16) + c.toNat % 16 = c.toNat by omega, UInt8.ofNat_toNat]
theorem unhexL_dec : ∀ (t r : Str), unhexL t = some r → hexB r = t ∧ Lib.Hx.decode t = (r, .ok)
 | [], r, h => by
   simp only [unhexL, Option.some.injEq] at h
   subst h
   exact ⟨rfl, Lib.Hx.decode_nil⟩
 | [_], r, h => by simp [unhexL] at h
 | a :: b :: t, r, h => by
   unfold unhexL at h
   split at h
   · rename_i hh ll rr h1 h2 h3
     simp only [Option.some.injEq] at h
     subst h
     obtain ⟨i1, i2⟩ := unhexL_dec t rr h3
     obtain ⟨a1, a2, a3⟩ := hexVal_some h1
     obtain ⟨b1, b2, b3⟩ := hexVal_some h2
     have hn : (UInt8.ofNat (16 * hh + ll)).toNat = 16 * hh + ll := UInt8.toNat_ofNat_of_lt' (by show _ < 256; omega)
     refine ⟨?_, ?_⟩
     · rw [hexB, hn, i1, show (16 * hh + ll) / 16 = hh by omega, show (16 * hh + ll) % 16 = ll by omega, a3, b3]
     · rw [Lib.Hx.decode_two, a2, b2, if_neg (by omega), if_neg (by omega), i2, Nat.mul_comm]
   · cases h
theorem unhex_yes {t r : Str} (hd : Lib.Hx.decode t = (r, .ok)) (h1 : ¬ (20000 : Int) < (r.length : Int)) (h2 : hexB r = t) : unhex t = (r, true) := by
 have hl := hexB_len r
 unfold unhex
 rw [if_neg (by rw [← h2, hl]; omega), ← h2, unhexL_hexB]
theorem unhex_err {t : Str} (hd : ∀ r, Lib.Hx.decode t ≠ (r, .ok)) : unhex t = ([], false) := by
 unfold unhex
 split
 · rfl
 · cases h : unhexL t with
   | none => rfl
   | some r => exact absurd (unhexL_dec t r h).2 (hd r)
theorem unhex_long {t r : Str} (hd : Lib.Hx.decode t = (r, .ok)) (h1 : (20000 : Int) < (r.length : Int)) : unhex t = ([], false) := by
 unfold unhex
 split
 · rfl
 · rename_i hl
   cases h : unhexL t with
   | none => rfl
   | some r' =>
     have := unhexL_dec t r' h
     rw [hd] at this
     have e : r = r' := (Prod.mk.inj this.2).1
     subst e
     have := unhexL_len t r h
     omega
theorem unhex_ne {t r : Str} (hd : Lib.Hx.decode t = (r, .ok)) (h1 : ¬ hexB r = t) : unhex t = ([], false) := by
 unfold unhex
 split
 · rfl
 · cases h : unhexL t with
   | none => rfl
   | some r' =>
     have := unhexL_dec t r' h
     rw [hd] at this
     have e : r = r' := (Prod.mk.inj this.2).1
     subst e
     exact absurd this.1 h1
/-- What Hex hands back. -/
def hexP (s : Str) : Str × Bool := if 20000 < (s.length : Int) then ([], false) else (hexB s, true)
theorem hexS_P (s : Str) : hexS s = (hexP s).1 := by
 unfold hexS hexP
 by_cases h : 20000 < s.length
 · rw [if_pos h, if_pos (by omega)]
 · rw [if_neg h, if_neg (by omega)]
def hexAcc : Str → Str → Str
 | [], out => out
 | c :: s, out => hexAcc s (out ++ [hexFig (c.toNat / 16), hexFig (c.toNat % 16)])
theorem hexAcc_app : ∀ (s out : Str), hexAcc s out = out ++ hexB s
 | [], out => by simp [hexAcc, hexB]
 | c :: s, out => by rw [hexAcc, hexAcc_app s, hexB]; simp
def hexV (c : UInt8) : Int := match hexVal c with | some n => (n : Int) | none => -1
theorem unhexL_step {t out : Str} {j : Nat} (h : j + 1 < t.length) : (unhexL (t.drop j)).map (out ++ ·) = if hexV (t.getD j 0) < 0 ∨ hexV (t.getD (j + 1) 0) < 0 then none else
   (unhexL (t.drop (j + 2))).map ((out ++ [UInt8.ofNat (16 * hexV (t.getD j 0) + hexV (t.getD (j + 1) 0)).toNat]) ++ ·) := by
 rw [drop_at (getD_some (d := (0 : UInt8)) (by omega : j < t.length)), drop_at (getD_some (d := (0 : UInt8)) h), unhexL]
 unfold hexV
 cases h1 : hexVal (t.getD j 0) with
 | none => simp
 | some a =>
   cases h2 : hexVal (t.getD (j + 1) 0) with
   | none => simp
   | some b =>
     rw [if_neg (by simp only; omega)]
     have e : (16 * (a : Int) + (b : Int)).toNat = 16 * a + b := by omega
     simp only [e]
     cases unhexL (t.drop (j + 2)) with
     | none => rfl
     | some r => simp
theorem unhex_some {t r : Str} (h : unhexL t = some r) (h1 : ¬ (40000 : Int) < (t.length : Int)) : unhex t = (r, true) := by
 unfold unhex
 rw [if_neg (by omega), h]
theorem unhex_none {t : Str} (h : unhexL t = none) : unhex t = ([], false) := by
 unfold unhex
 rw [h]
 split <;> rfl
theorem unhexL_odd : ∀ (t : Str), t.length % 2 = 1 → unhexL t = none
 | [], h => by simp at h
 | [_], _ => rfl
 | a :: b :: t, h => by
   unfold unhexL
   rw [unhexL_odd t (by simp only [List.length_cons] at h; omega)]
   cases hexVal a <;> cases hexVal b <;> rfl
theorem unhex_bad {t : Str} (h : (40000 : Int) < (t.length : Int) ∨ ¬ ((t.length % 2 : Nat) : Int) = 0) : unhex t = ([], false) := by
 rcases h with h | h
 · unfold unhex
   rw [if_pos (by omega)]
 · exact unhex_none (unhexL_odd t (by omega))
theorem unhex_fst {t : Str} {u : Str} (h : unhex t = (u, false)) : u = [] := by
 unfold unhex at h
 split at h
 · simp at h; exact h
 · split at h <;> simp at h
   exact h
theorem messageOf_nil {v : Str} (h : v = []) : messageOf v = [] := by subst h; rfl
theorem messageOf_one {v : Str} (h : ¬ v = []) (h2 : ((v.getD 0 0).toNat : Int) = 45) : messageOf v = (unhex (v.drop 1)).1 := by
 cases v with
 | nil => exact absurd rfl h
 | cons c t =>
   have hc : c = 45 := by
     simp only [List.getD_cons_zero] at h2
     apply UInt8.toNat.inj
     show c.toNat = 45
     omega
   unfold messageOf
   simp [hc]
theorem messageOf_no {v : Str} (h2 : ¬ ((v.getD 0 0).toNat : Int) = 45) : messageOf v = [] := by
 cases v with
 | nil => rfl
 | cons c t =>
   have hc : ¬ c = 45 := by
     intro e
     subst e
     simp at h2
   unfold messageOf
   simp [hc]
theorem prefix45 {v : Str} : prefixB v [45] = true ↔ ∃ t, v = 45 :: t := by
 unfold prefixB
 simp only [List.length_cons, List.length_nil, Bool.and_eq_true, decide_eq_true_eq]
 cases v with
 | nil => simp
 | cons c t => simp
theorem hexAcc_nil (s : Str) : hexAcc s [] = hexB s := by rw [hexAcc_app]; rfl
theorem hexP_no {s : Str} (h : ¬ (20000 : Int) < (s.length : Int)) : hexP s = (hexB s, true) := by unfold hexP; rw [if_neg h]
theorem hexP_yes {s : Str} (h : (20000 : Int) < (s.length : Int)) : hexP s = ([], false) := by unfold hexP; rw [if_pos h]
theorem hexFig_lo {k : Nat} (h : k < 10) : (hexFig k).toNat = 48 + k := by
 unfold hexFig
 rw [if_pos h, UInt8.toNat_ofNat_of_lt' (by show _ < 256; omega)]
theorem hexFig_hi {k : Nat} (h : ¬ k < 10) (h2 : k < 16) : (hexFig k).toNat = 87 + k := by
 unfold hexFig
 rw [if_neg h, UInt8.toNat_ofNat_of_lt' (by show _ < 256; omega)]
theorem hexV_a {c : UInt8} (h1 : 48 ≤ c.toNat) (h2 : c.toNat ≤ 57) : hexV c = (c.toNat : Int) - 48 := by
 unfold hexV hexVal
 rw [if_pos ⟨h1, h2⟩]
 simp only
 omega
theorem hexV_b {c : UInt8} (h1 : 97 ≤ c.toNat) (h2 : c.toNat ≤ 102) : hexV c = (c.toNat : Int) - 97 + 10 := by
 unfold hexV hexVal
 rw [if_neg (by omega), if_pos ⟨h1, h2⟩]
 simp only
 omega
theorem hexV_c {c : UInt8} (h1 : c.toNat < 48 ∨ 57 < c.toNat) (h2 : c.toNat < 97 ∨ 102 < c.toNat) : hexV c = -1 := by
 unfold hexV hexVal
 rw [if_neg (by omega), if_neg (by omega)]
theorem messageOf_cutT {v u : Str} (h : cutPre v [45] = (u, true)) : messageOf v = (unhex u).1 := by
 unfold cutPre at h
 split at h
 · rename_i hp
   obtain ⟨t, rfl⟩ := prefix45.1 hp
   simp only [Prod.mk.injEq, and_true] at h
   subst h
   rfl
 · simp at h
theorem messageOf_cutF {v u : Str} (h : cutPre v [45] = (u, false)) : messageOf v = [] := by
 unfold cutPre at h
 split at h
 · simp at h
 · rename_i hp
   cases v with
   | nil => rfl
   | cons c t =>
     unfold messageOf
     simp only
     rw [if_neg]
     intro hc
     subst hc
     exact hp (prefix45.2 ⟨t, rfl⟩)
@[reducible] def rB (a : Option Addr) (c : Nat) (l : Str) : Res := .row (.slice a l.length c) 5 1 l.length (l.map encB)
theorem wr8u {x : Int} {c : UInt8} (h : 0 ≤ x ∧ x < 256) (hc : c = UInt8.ofNat x.toNat) : IntKind.u8.wrap x = ((c.toNat : Nat) : Int) := by
 subst hc
 refine wr8 ⟨?_, by omega, by omega⟩
 rw [UInt8.toNat_ofNat_of_lt' (by show _ < 256; omega)]
 omega
theorem setB {l : Str} {i : Nat} {c : UInt8} (h : i < l.length) : (l.map encB).take (i * 1) ++ [.int .u8 (c.toNat : Int)] ++ (l.map encB).drop (i * 1 + 1) = (l.set i c).map encB := by
 have e : ∀ q : Str, q.flatMap (fun s => [encB s]) = q.map encB := fun q => by
   induction q with
   | nil => rfl
   | cons x q ih => rw [List.flatMap_cons, ih]; rfl
 have := flat_set (enc := fun s => [encB s]) (k := 1) (fun _ => rfl) l i c h
 rw [e, e] at this
 exact this
section
variable {P : Program} {ops : Array Oper} {Q : Exit → Act → World → Prop} {n : Nat} {w0 w : World} {D : List Nat} {L : List Res} {e : Env}
variable {d : Option Tmp} {ty : TypeId} {pos : String} {aft : Array Edge} {gd : Option (Nat × Bool)}
/-- A text's bytes, copied into a row of their own. -/
theorem JO.toBytes {src dst : TypeId} {x : Operand} {s : Str} (hs : P.underlying src = some .string) (hd : P.underlying dst = some (.slice TB)) (he : P.underlying TB = some (.int .u8)) (hx : rd n e x = str s) (hm : s.length ≤ maxLen) :
   JO P n w0 D L e ⟨d, .convert src dst x, ty, pos, aft, gd⟩ (fun u L' => ∃ a c, u = .slice a s.length c ∧ L' = .row (.slice a s.length c) TB 1 s.length (s.map encB) :: L) := JO.ofRun fun w hw => by
 have hsz : (ByteArray.mk s.toArray).size = s.length := size_mk s
 have hrun := Lib.run_convert_string_bytes (P := P) w src dst TB ⟨s.toArray⟩ hs hd he
 have hge := grownCap_ge w s.length 0 TB
 have hle := grownCap_le_maxLen w s.length 0 TB hm
 have hcs : (Lib.bytesCells w TB ⟨s.toArray⟩).size = grownCap w s.length 0 TB := by
   unfold Lib.bytesCells
   rw [hsz]
   simp
   omega
 have hcl : (Lib.bytesCells w TB ⟨s.toArray⟩).toList.take s.length = s.map encB := by
   unfold Lib.bytesCells
   simp only [Array.toList_append, Array.toList_map]
   rw [List.take_append_of_le_length (by simp), List.take_of_length_le (by simp)]
 refine ⟨_, .row (.slice (some ⟨w.heap.size, 0, none⟩) s.length (grownCap w s.length 0 TB)) TB 1 s.length (s.map encB) :: L, Lib.bytesWorld w TB ⟨s.toArray⟩, ?_, ⟨_, _, rfl, rfl⟩, ?_⟩
 · simp only [execOp, hx, str, Sem.run_bind, hrun, Result.andThen_ok, hsz]
   rfl
 · refine hw.turn (A := []) (A' := [.row (.slice (some ⟨w.heap.size, 0, none⟩) s.length (grownCap w s.length 0 TB)) TB 1 s.length (s.map encB)]) (F := L) (List.Perm.refl _) rfl rfl rfl (by rw [Lib.bytesWorld_size]; omega)
     (fun k hk _ => Lib.bytesWorld_at_old w _ _ k hk) ?_ (by simp [idsOf, Res.ids, Value.ownBlock]) ?_
   · intro r hr
     simp only [List.mem_singleton] at hr
     subst hr
     refine ⟨by simp, .inr ⟨w.heap.size, _, _, rfl, Nat.zero_le _, ⟨_, Lib.bytesWorld_at_new w TB ⟨s.toArray⟩, .inr ⟨Nat.le_refl _, rfl⟩⟩, hge, hle, by rw [hcs, Nat.mul_one]; exact Nat.le_refl _, by rw [Nat.mul_one]; exact hcl⟩⟩
   · intro i hi
     simp only [idsOf, Res.ids, Value.ownBlock, List.flatMap_cons, List.flatMap_nil, List.append_nil, Option.mem_toList, Option.some.injEq] at hi
     exact .inr (by omega)
end

theorem N_hexEnc (a : Option Addr) (c : Nat) (l : Str) (hl : l.length ≤ 1000000000000) : Ct Tryz.prog 254 [.slice a l.length c] [] (fun w => Sees w (.slice a l.length c) 1 l.length (l.map encB)) (fun v A' => v = str (hexB l) ∧ A' = []) := fun w hA hs => by
 obtain ⟨hlen, hs⟩ := hs
 rcases hs with ⟨hv, h0⟩ | ⟨b, o, cap, hv, h1, h2, h3, h4⟩
 · have hl0 : l = [] := List.length_eq_zero_iff.1 h0
   subst hl0
   simp only [Value.slice.injEq] at hv
   obtain ⟨rfl, _, rfl⟩ := hv
   refine (Tryz.hex_EncodeToString_nil w).mono fun e w' h => ?_
   obtain ⟨rfl, hb⟩ := h
   exact ⟨_, [], rfl, ⟨rfl, rfl⟩, hA.below hb⟩
 · simp only [Value.slice.injEq] at hv
   obtain ⟨rfl, _, rfl⟩ := hv
   refine (Tryz.hex_EncodeToString_bytes b o c l w (fun i hi => ?_) h3 (by omega)).mono fun e w' h => ?_
   · exact h4 i _ (by rw [List.getElem?_map, List.getElem?_eq_getElem hi]; rfl)
   · obtain ⟨rfl, hb⟩ := h
     exact ⟨_, [], rfl, ⟨by rw [encode_hexB]; rfl, rfl⟩, hA.below hb⟩
/-- What DecodeString hands back. -/
def decPost (t : Str) (v : Value) (A' : List Res) : Prop := ∃ a c, ∃ r : Str, ((Lib.Hx.decode t = (r, .ok) ∧ v = .tuple #[.slice a r.length c, .nilIface]) ∨ ((∀ r, Lib.Hx.decode t ≠ (r, .ok)) ∧ ∃ te pe, v = .tuple #[.slice a r.length c, .iface te pe])) ∧ A' = [rB a c r]
theorem N_hexDec (t : Str) (ht : t.length ≤ 1000000000000) : Ct Tryz.prog 376 [str t] [] (fun w => HexOk w) (fun v A' => decPost t v A') := fun w hA hx => by
 obtain ⟨tp, p, hE⟩ := hx.cell
 have hl : (ByteArray.mk t.toArray).data.toList = t := by simp
 refine (Tryz.hex_DecodeString_owns ⟨t.toArray⟩ w _ hE (by rw [size_mk]; omega)).mono fun e w' h => ?_
 rw [hl] at h
 obtain ⟨v, rfl, hown, hb⟩ := h
 generalize hd : Lib.Hx.decode t = q at hown
 obtain ⟨r, o⟩ := q
 simp only at hown
 have hvs : ∃ a c, v = .slice a r.length c := by
   rcases hown.2 with ⟨hv, h0⟩ | ⟨g, cap, cur, hv, _⟩
   · exact ⟨none, 0, by rw [hv, h0]⟩
   · exact ⟨_, _, hv⟩
 obtain ⟨a, c, rfl⟩ := hvs
 have hst : St w (idsOf []) [rB a c r] w' := by
   refine (St.start hA).turn (A := []) (A' := [rB a c r]) (F := []) (List.Perm.refl _) hb.os hb.tape hb.output hb.size (fun k hk _ => hb.block k hk) ?_ ?_ ?_
   · intro x hx'
     simp only [List.mem_singleton] at hx'
     subst hx'
     have h1 := World.ownsR.of hown
     refine ⟨h1.1, ?_⟩
     rcases h1.2 with h | ⟨g, cap, cur, hv, _, rest⟩
     · exact .inl h
     · exact .inr ⟨g, cap, cur, hv, Nat.zero_le _, rest⟩
   · simp only [idsOf, Res.ids, List.flatMap_cons, List.flatMap_nil, List.append_nil]
     cases (Value.slice a r.length c).ownBlock <;> simp
   · intro i hi
     simp only [idsOf, Res.ids, List.flatMap_cons, List.flatMap_nil, List.append_nil, Option.mem_toList] at hi
     exact .inr (World.ownsRow.lt hown i hi).1
 refine ⟨_, _, rfl, ⟨a, c, r, ?_, rfl⟩, hst⟩
 cases o with
 | ok => exact .inl ⟨hd, rfl⟩
 | bad q => exact .inr ⟨fun r' h => by rw [hd] at h; simp at h, _, _, rfl⟩
 | odd => exact .inr ⟨fun r' h => by rw [hd] at h; simp at h, _, _, rfl⟩
end Go.Proofs.YthlfmbbaomdciaaGreatDoor
set_option maxHeartbeats 4000000
set_option maxRecDepth 4000
namespace Go.Proofs.YthlfmbbaomdciaaGreatDoor
open Go Go.RowKit
theorem St.apart {w0 w : World} {D : List Nat} {L A : List Res} {v : Value} {k m : Nat} {vs : List Value} (hw : St w0 D L w) (hs : Sees w0 v k m vs) (hD : ∀ b, v.ownBlock = some b → b ∉ D) (hA : ∀ r ∈ A, r ∈ L) :
   ∀ j, v.ownBlock = some j → j ∉ idsOf A := fun j hj hin => by
 obtain ⟨r, hr, hjr⟩ := mem_idsOf.1 hin
 rcases hs.2 with ⟨rfl, _⟩ | ⟨b, o, cap, hv, h1, h2, h3, h4⟩
 · simp [Value.ownBlock] at hj
 · rcases hw.fresh j (mem_idsOf.2 ⟨r, hA r hr, hjr⟩) with h | h
   · exact hD j hj h
   · subst hv
     simp [Value.ownBlock] at hj
     omega
/-- What PutKey keeps. -/
def okC' (n k : Nat) (s : List Cell) : Prop := s.length ≤ n ∧ ∀ c ∈ s, c.1.length ≤ k ∧ c.2.length ≤ k
theorem okC'.put {n k : Nat} {s : List Cell} (h : okC' n k s) (key val : Str) (h1 : key.length ≤ k) (h2 : val.length ≤ k) : okC' (n + 1) k (putKey s key val) := by
 refine ⟨Nat.le_trans (putKey_len s key val) (by have := h.1; omega), fun c hc => ?_⟩
 rcases putKey_mem (s := s) hc with hc | ⟨rfl, _, _⟩
 · exact h.2 c hc
 · exact ⟨h1, h2⟩
theorem okC'.mono {n n' k : Nat} {s : List Cell} (h : okC' n k s) (hn : n ≤ n') : okC' n' k s := ⟨Nat.le_trans h.1 hn, h.2⟩
attribute [local irreducible] JL JC JQ JO LO PO JA JX Ct
end Go.Proofs.YthlfmbbaomdciaaGreatDoor
namespace Go.Proofs.YthlfmbbaomdciaaGreatDoor
open Go Go.RowKit
def MS.empty : MS := ⟨[], [], []⟩
theorem getKey_app {key : Str} : ∀ (a b : List Cell), (∀ c ∈ a, ¬ c.1 = key) → getKey (a ++ b) key = getKey b key
 | [], b, _ => rfl
 | c :: a, b, h => by
   rw [List.cons_append, getKey, if_neg (h c (List.mem_cons_self ..)), getKey_app a b (fun d hd => h d (List.mem_cons_of_mem _ hd))]
theorem getKey_ins {key val : Str} {f : List Cell} (h : ∀ c ∈ f, ¬ c.1 = key) (i : Nat) : getKey (insertAt i (key, val) f) key = val := by
 unfold insertAt
 first
 | (rw [List.append_assoc, getKey_app _ _ (fun c hc => h c (List.mem_of_mem_take hc)), List.cons_append, getKey, if_pos rfl])
 | (rw [getKey_app _ _ (fun c hc => h c (List.mem_of_mem_take hc)), getKey, if_pos rfl])
theorem getKey_put {s : List Cell} {key val : Str} (hk : keyOk key = true) (hv : ¬ val = []) (hl : val.length ≤ 60) : getKey (putKey s key val) key = val := by
 unfold putKey
 rw [hk, decide_eq_false (by omega)]
 simp only [Bool.not_true, Bool.false_or, Bool.or_false, Bool.false_eq_true, if_false, if_neg hv]
 exact getKey_ins (fun c hc => by simpa using (List.mem_filter.1 hc).2) _
end Go.Proofs.YthlfmbbaomdciaaGreatDoor
namespace Go.Proofs.YthlfmbbaomdciaaGreatDoor
open Go Go.RowKit
attribute [local irreducible] JL JC JQ JO LO PO JA JX Ct
theorem D_machOf0 (sa : Option Addr) (sc : Nat) (s : List Cell) (hs : s.length ≤ 1000000000) :
   Ct Tryz.prog 106 [.slice sa s.length sc] [] (fun w => Sees w (.slice sa s.length sc) 2 s.length (s.flatMap encC)) (fun v A' => ∃ a c, v = .agg #[.slice a s.length c, .slice none 0 0, .slice none 0 0] ∧ A' = [rC a c s]) := by
 refine Ct.intro Tryz.func106 rfl Tryz.ntmps106 (lb rfl) fun w0 hpre => ?_
 have hs_sa : Sees w0 _ _ _ _ := hpre
 refine go ?_
 refine jG zC fun b_1 => ?_
 refine go ?_
 refine jF rfl (jR (ps := []) (cur := #[]) kK kP kq rfl (by kernel_rfl) (by decide) (by decide)) ?_
 rintro _ _ ⟨a_2, rfl, rfl⟩
 refine go ?_
 refine jF rfl (jX 0 (q := s.length) (news := s.flatMap encC) (n' := s.length) (cs' := s.flatMap encC) rfl kK kK ko rfl (by' := 32) rfl rfl rfl rfl rfl (fun w hw => Src.sees (hw.seeOut_ hs_sa nM) (oneC _)) (by (try simp only [LE]); omega) (by (try simp only [LE]); omega) (by (try simp only [List.length_take, List.length_drop]); first | rfl | omega) rfl) ?_
 rintro _ _ ⟨a_3, c_4, rfl, rfl⟩
 refine jK (je (ps := [(0, .slice a_3 s.length c_4)]) (cs := [.slice a_3 s.length c_4, .slice none 0 0, .slice none 0 0]) rfl (by kernel_rfl)) ?_
 refine jD 1 [.slice a_3 s.length c_4, .slice none 0 0, .slice none 0 0] ?_
 refine go ?_
 exact jJ [0] ⟨a_3, c_4, rfl, rfl⟩
end Go.Proofs.YthlfmbbaomdciaaGreatDoor
