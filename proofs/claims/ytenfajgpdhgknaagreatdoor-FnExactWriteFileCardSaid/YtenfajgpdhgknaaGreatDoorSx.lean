/-
  A text's bytes as a row; encoding/hex in the words of the small logic.
-/
import Derived.Test.YtenfajgpdhgknaaGreatDoorSd
import Derived.Test.YtenfajgpdhgknaaGreatDoorDatH
import Derived.Test.YtenfajgpdhgknaaGreatDoorSlTx
import Derived.Lib.ConvBytes
set_option linter.unusedSimpArgs false
set_option linter.unusedVariables false
set_option linter.unnecessarySimpa false
namespace Go.Proofs.YtenfajgpdhgknaaGreatDoor
open Go Go.RowKit

@[reducible] def rB (a : Option Addr) (c : Nat) (l : Str) : Res := .row (.slice a l.length c) 5 1 l.length (l.map encB)
theorem wr8u {x : Int} {c : UInt8} (h : 0 ≤ x ∧ x < 256) (hc : c = UInt8.ofNat x.toNat) : IntKind.u8.wrap x = ((c.toNat : Nat) : Int) := by
  subst hc
  refine wr8 ⟨?_, by omega, by omega⟩
  rw [UInt8.toNat_ofNat_of_lt' (by show _ < 256; omega)]
  omega
theorem setB {l : Str} {i : Nat} {c : UInt8} (h : i < l.length) : (l.map encB).take (i * 1) ++ [.int .u8 (c.toNat : Int)] ++ (l.map encB).drop (i * 1 + 1) = (l.set i c).map encB := by
  have e : ∀ q : Str, q.flatMap (fun s => [encB s]) = q.map encB := fun q => by
    induction q with
    | nil => rfl
    | cons x q ih => rw [List.flatMap_cons, ih]; rfl
  have := flat_set (enc := fun s => [encB s]) (k := 1) (fun _ => rfl) l i c h
  rw [e, e] at this
  exact this
section
variable {P : Program} {ops : Array Oper} {Q : Exit → Act → World → Prop} {n : Nat} {w0 w : World} {D : List Nat} {L : List Res} {e : Env}
variable {d : Option Tmp} {ty : TypeId} {pos : String} {aft : Array Edge} {gd : Option (Nat × Bool)}
/-- A text's bytes, copied into a row of their own. -/
theorem JO.toBytes {src dst : TypeId} {x : Operand} {s : Str} (hs : P.underlying src = some .string) (hd : P.underlying dst = some (.slice TB)) (he : P.underlying TB = some (.int .u8)) (hx : rd n e x = str s) (hm : s.length ≤ maxLen) :
    JO P n w0 D L e ⟨d, .convert src dst x, ty, pos, aft, gd⟩ (fun u L' => ∃ a c, u = .slice a s.length c ∧ L' = .row (.slice a s.length c) TB 1 s.length (s.map encB) :: L) := JO.ofRun fun w hw => by
  have hsz : (ByteArray.mk s.toArray).size = s.length := size_mk s
  have hrun := Lib.run_convert_string_bytes (P := P) w src dst TB ⟨s.toArray⟩ hs hd he
  have hge := grownCap_ge w s.length 0 TB
  have hle := grownCap_le_maxLen w s.length 0 TB hm
  have hcs : (Lib.bytesCells w TB ⟨s.toArray⟩).size = grownCap w s.length 0 TB := by
    unfold Lib.bytesCells
    rw [hsz]
    simp
    omega
  have hcl : (Lib.bytesCells w TB ⟨s.toArray⟩).toList.take s.length = s.map encB := by
    unfold Lib.bytesCells
    simp only [Array.toList_append, Array.toList_map]
    rw [List.take_append_of_le_length (by simp), List.take_of_length_le (by simp)]
  refine ⟨_, .row (.slice (some ⟨w.heap.size, 0, none⟩) s.length (grownCap w s.length 0 TB)) TB 1 s.length (s.map encB) :: L, Lib.bytesWorld w TB ⟨s.toArray⟩, ?_, ⟨_, _, rfl, rfl⟩, ?_⟩
  · simp only [execOp, hx, str, Sem.run_bind, hrun, Result.andThen_ok, hsz]
    rfl
  · refine hw.turn (A := []) (A' := [.row (.slice (some ⟨w.heap.size, 0, none⟩) s.length (grownCap w s.length 0 TB)) TB 1 s.length (s.map encB)]) (F := L) (List.Perm.refl _) rfl rfl rfl (by rw [Lib.bytesWorld_size]; omega)
      (fun k hk _ => Lib.bytesWorld_at_old w _ _ k hk) ?_ (by simp [idsOf, Res.ids, Value.ownBlock]) ?_
    · intro r hr
      simp only [List.mem_singleton] at hr
      subst hr
      refine ⟨by simp, .inr ⟨w.heap.size, _, _, rfl, Nat.zero_le _, ⟨_, Lib.bytesWorld_at_new w TB ⟨s.toArray⟩, .inr ⟨Nat.le_refl _, rfl⟩⟩, hge, hle, by rw [hcs, Nat.mul_one], by rw [Nat.mul_one]; exact hcl⟩⟩
    · intro i hi
      simp only [idsOf, Res.ids, Value.ownBlock, List.flatMap_cons, List.flatMap_nil, List.append_nil, Option.mem_toList, Option.some.injEq] at hi
      exact .inr (by omega)
end

theorem N_hexEnc (a : Option Addr) (c : Nat) (l : Str) (hl : l.length ≤ 1000000000000) : Ct Tryz.prog 289 [.slice a l.length c] [] (fun w => Sees w (.slice a l.length c) 1 l.length (l.map encB)) (fun v A' => v = str (hexB l) ∧ A' = []) := fun w hA hs => by
  obtain ⟨hlen, hs⟩ := hs
  rcases hs with ⟨hv, h0⟩ | ⟨b, o, cap, hv, h1, h2, h3, h4⟩
  · have hl0 : l = [] := List.length_eq_zero_iff.1 h0
    subst hl0
    simp only [Value.slice.injEq] at hv
    obtain ⟨rfl, _, rfl⟩ := hv
    refine (Tryz.hex_EncodeToString_nil w).mono fun e w' h => ?_
    obtain ⟨rfl, hb⟩ := h
    exact ⟨_, [], rfl, ⟨rfl, rfl⟩, hA.below hb⟩
  · simp only [Value.slice.injEq] at hv
    obtain ⟨rfl, _, rfl⟩ := hv
    refine (Tryz.hex_EncodeToString_bytes b o c l w (fun i hi => ?_) h3 (by omega)).mono fun e w' h => ?_
    · exact h4 i _ (by rw [List.getElem?_map, List.getElem?_eq_getElem hi]; rfl)
    · obtain ⟨rfl, hb⟩ := h
      exact ⟨_, [], rfl, ⟨by rw [encode_hexB]; rfl, rfl⟩, hA.below hb⟩
/-- What DecodeString hands back. -/
def decPost (t : Str) (v : Value) (A' : List Res) : Prop := ∃ a c, ∃ r : Str, ((Lib.Hx.decode t = (r, .ok) ∧ v = .tuple #[.slice a r.length c, .nilIface]) ∨ ((∀ r, Lib.Hx.decode t ≠ (r, .ok)) ∧ ∃ te pe, v = .tuple #[.slice a r.length c, .iface te pe])) ∧ A' = [rB a c r]
theorem N_hexDec (t : Str) (ht : t.length ≤ 1000000000000) : Ct Tryz.prog 288 [str t] [] (fun w => HexOk w) (fun v A' => decPost t v A') := fun w hA hx => by
  obtain ⟨tp, p, hE⟩ := hx.cell
  have hl : (ByteArray.mk t.toArray).data.toList = t := by simp
  refine (Tryz.hex_DecodeString_owns ⟨t.toArray⟩ w _ hE (by rw [size_mk]; omega)).mono fun e w' h => ?_
  rw [hl] at h
  obtain ⟨v, rfl, hown, hb⟩ := h
  generalize hd : Lib.Hx.decode t = q at hown
  obtain ⟨r, o⟩ := q
  simp only at hown
  have hvs : ∃ a c, v = .slice a r.length c := by
    rcases hown.2 with ⟨hv, h0⟩ | ⟨g, cap, cur, hv, _⟩
    · exact ⟨none, 0, by rw [hv, h0]⟩
    · exact ⟨_, _, hv⟩
  obtain ⟨a, c, rfl⟩ := hvs
  have hst : St w (idsOf []) [rB a c r] w' := by
    refine (St.start hA).turn (A := []) (A' := [rB a c r]) (F := []) (List.Perm.refl _) hb.os hb.tape hb.output hb.size (fun k hk _ => hb.block k hk) ?_ ?_ ?_
    · intro x hx'
      simp only [List.mem_singleton] at hx'
      subst hx'
      have h1 := World.ownsR.of hown
      refine ⟨h1.1, ?_⟩
      rcases h1.2 with h | ⟨g, cap, cur, hv, _, rest⟩
      · exact .inl h
      · exact .inr ⟨g, cap, cur, hv, Nat.zero_le _, rest⟩
    · simp only [idsOf, Res.ids, List.flatMap_cons, List.flatMap_nil, List.append_nil]
      cases (Value.slice a r.length c).ownBlock <;> simp
    · intro i hi
      simp only [idsOf, Res.ids, List.flatMap_cons, List.flatMap_nil, List.append_nil, Option.mem_toList] at hi
      exact .inr (World.ownsRow.lt hown i hi).1
  refine ⟨_, _, rfl, ⟨a, c, r, ?_, rfl⟩, hst⟩
  cases o with
  | ok => exact .inl ⟨hd, rfl⟩
  | bad q => exact .inr ⟨fun r' h => by rw [hd] at h; simp at h, _, _, rfl⟩
  | odd => exact .inr ⟨fun r' h => by rw [hd] at h; simp at h, _, _, rfl⟩
end Go.Proofs.YtenfajgpdhgknaaGreatDoor
