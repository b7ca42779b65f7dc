/-
Texts of the walk, joined: what each one proves stands at its theorems.
-/
import Derived.Test.YthlfmbbaomdciaaGreatDoorB0DatTg
set_option linter.unusedSimpArgs false
set_option linter.unusedVariables false
set_option linter.unnecessarySimpa false
namespace Go.Proofs.YthlfmbbaomdciaaGreatDoor
open Go Go.RowKit
namespace Pr
variable {α : Type}
/-- What is read or laid is so at keys of at most 2000000 bytes, where the keys of the store are no longer than 1048576. -/
def kr : Pr α → Prop
 | .ret _ => True
 | .look k f => k.length ≤ 2000000 ∧ ∀ v, (f v).kr
 | .lay k _ p => k.length ≤ 2000000 ∧ p.kr
 | .under k f => k.length ≤ 2000000 ∧ ∀ l : List Str, (∀ x ∈ l, x.length ≤ 1048576) → (f l).kr
def okKeys (s : List Cell) : Prop := ∀ c ∈ s, c.1.length ≤ 1048576
theorem okKeys_put {s : List Cell} (h : okKeys s) (k v : Str) : okKeys (putKey s k v) := fun c hc => by
 rcases putKey_mem (s := s) hc with hc | ⟨rfl, h1, _⟩
 · exact h c hc
 · dsimp only; omega
theorem okKeys_under {s : List Cell} (h : okKeys s) (k : Str) : ∀ x ∈ keysUnder s k, x.length ≤ 1048576 := fun x hx => by
 unfold keysUnder at hx
 obtain ⟨c, hc, rfl⟩ := List.mem_map.1 hx
 exact h c (List.mem_filter.1 hc).1
theorem kr_trw : ∀ (p : Pr α) (s : List Cell), p.kr → okKeys s → ∀ k ∈ (p.tr s).w, k.length ≤ 3000000
 | .ret a, s, _, _, k, hk => by cases hk
 | .look k f, s, h, hs, x, hx => kr_trw (f (getKey s k)) s (h.2 _) hs x hx
 | .lay k v p, s, h, hs, x, hx => by
   rcases List.mem_cons.1 hx with rfl | hx
   · exact Nat.le_trans h.1 (by decide)
   · exact kr_trw p _ h.2 (okKeys_put hs k v) x hx
 | .under k f, s, h, hs, x, hx => kr_trw (f (keysUnder s k)) s (h.2 _ (okKeys_under hs k)) hs x hx
theorem okKeys_tr : ∀ (p : Pr α) (s : List Cell), okKeys s → okKeys (p.tr s).s
 | .ret a, s, hs => hs
 | .look k f, s, hs => okKeys_tr (f (getKey s k)) s hs
 | .lay k v p, s, hs => okKeys_tr p _ (okKeys_put hs k v)
 | .under k f, s, hs => okKeys_tr (f (keysUnder s k)) s hs
theorem rl1 {a b : Str} {n : Int} (h : (-9223372036854775808 ≤ n ∧ n ≤ 9223372036854775807)) (hl : a.length + b.length + 21 ≤ 2000000) : (keyNum a n b).length ≤ 2000000 := by
 have h1 := keyNum_len h.1 h.2 (Nat.le_refl a.length) (Nat.le_refl b.length)
 omega
theorem rl2 {a b c : Str} {n m : Int} (h : (-9223372036854775808 ≤ n ∧ n ≤ 9223372036854775807)) (h' : (-9223372036854775808 ≤ m ∧ m ≤ 9223372036854775807)) (hl : a.length + b.length + c.length + 42 ≤ 2000000) : (keyNum (keyNum a n b) m c).length ≤ 2000000 := by
 have h1 := keyNum_len h.1 h.2 (Nat.le_refl a.length) (Nat.le_refl b.length)
 have h2 := keyNum_len h'.1 h'.2 h1 (Nat.le_refl c.length)
 omega
theorem rlb {id : Int} {p : Nat} (h : (-9223372036854775808 ≤ id ∧ id ≤ 9223372036854775807)) (hp : p ≤ 1000) : (MS.blockKey id p).length ≤ 2000000 := rl2 h ⟨by omega, by omega⟩ (by decide)
theorem kr_look {k : Str} {f : Str → Pr α} (hk : k.length ≤ 2000000) (h : ∀ v, (f v).kr) : (Pr.look k f).kr := ⟨hk, h⟩
theorem kr_lay {k v : Str} {p : Pr α} (hk : k.length ≤ 2000000) (h : p.kr) : (Pr.lay k v p).kr := ⟨hk, h⟩
theorem kr_under {k : Str} {f : List Str → Pr α} (hk : k.length ≤ 2000000) (h : ∀ l : List Str, (∀ x ∈ l, x.length ≤ 1048576) → (f l).kr) : (Pr.under k f).kr := ⟨hk, h⟩
theorem kr_ite {c : Prop} [d : Decidable c] {p q : Pr α} (h1 : c → p.kr) (h2 : ¬ c → q.kr) : (if c then p else q).kr := by split <;> simp_all
theorem kr_num {k : Str} {f : Int → Pr α} (hk : k.length ≤ 2000000) (h : ∀ n, 0 ≤ n → n ≤ 999 → (f n).kr) : (num k f).kr := ⟨hk, fun v => h _ (numOf_lo v).1 (numOf_lo v).2⟩
theorem kr_setNum {k : Str} {n : Int} {p : Pr α} (hk : k.length ≤ 2000000) (h : p.kr) : (setNum k n p).kr := ⟨hk, h⟩
theorem kr_bump (k : Str) {f} (hk : k.length ≤ 2000000) (hf : ∀ r0, 0 ≤ r0 → r0 ≤ 1000 → (f r0).kr) : (bump k f : Pr α).kr := by
 unfold bump
 repeat' (first | (apply hf <;> omega)  | (with_reducible refine kr_ite (fun _ => ?_) (fun _ => ?_)) | (with_reducible refine kr_num ?_ fun _ _ _ => ?_) | (with_reducible refine kr_setNum ?_ ?_) | (assumption) | (exact ⟨by omega, by omega⟩) | omega | (simp only [List.length_append, List.length_cons, List.length_nil]; omega))
theorem kr_message (k : Str) {f} (hk : k.length ≤ 2000000) (hf : ∀ r0, (f r0).kr) : (message k f : Pr α).kr := by
 unfold message
 repeat' (first | (exact hf _) | (exact ⟨hk, fun _ => hf _⟩)  | (with_reducible refine kr_look ?_ fun _ => ?_) | (assumption) | (exact ⟨by omega, by omega⟩) | omega | (simp only [List.length_append, List.length_cons, List.length_nil]; omega))
theorem kr_fileOf (n : Str) {f} (hn : n.length ≤ 1048576) (hf : ∀ r0, 0 ≤ r0 → r0 ≤ 1000 → (f r0).kr) : (fileOf n f : Pr α).kr := by
 unfold fileOf
 repeat' (first | (apply hf <;> omega)  | (with_reducible refine kr_ite (fun _ => ?_) (fun _ => ?_)) | (with_reducible refine kr_num ?_ fun _ _ _ => ?_) | (assumption) | (exact ⟨by omega, by omega⟩) | omega | (simp only [List.length_append, List.length_cons, List.length_nil]; omega))
theorem kr_makeName (n : Str) {f} (hn : n.length ≤ 1048576) (hf : ∀ r0 r1, (f r0 r1).kr) : (makeName n f : Pr α).kr := by
 unfold makeName
 repeat' (first | (exact hf _ _)  | (with_reducible refine kr_ite (fun _ => ?_) (fun _ => ?_)) | (with_reducible refine kr_num ?_ fun _ _ _ => ?_) | (with_reducible refine kr_setNum ?_ ?_) | (with_reducible refine kr_bump _ ?_ (fun _ _ _ => ?_)) | (with_reducible refine kr_fileOf _ ?_ (fun _ _ _ => ?_)) | (assumption) | (exact ⟨by omega, by omega⟩) | omega | (refine rl1 ⟨by omega, by omega⟩ (by decide)) | (simp only [List.length_append, List.length_cons, List.length_nil]; omega))
theorem kr_linkName (a b : Str) {f} (ha : a.length ≤ 1048576) (hb : b.length ≤ 1048576) (hf : ∀ r0, (f r0).kr) : (linkName a b f : Pr α).kr := by
 unfold linkName
 repeat' (first | (exact hf _)  | (with_reducible refine kr_ite (fun _ => ?_) (fun _ => ?_)) | (with_reducible refine kr_num ?_ fun _ _ _ => ?_) | (with_reducible refine kr_setNum ?_ ?_) | (with_reducible refine kr_fileOf _ ?_ (fun _ _ _ => ?_)) | (assumption) | (exact ⟨by omega, by omega⟩) | omega | (refine rl1 ⟨by omega, by omega⟩ (by decide)) | (simp only [List.length_append, List.length_cons, List.length_nil]; omega))
theorem kr_wipeL {p : Pr α} (hp : p.kr) : ∀ l : List Str, (∀ x ∈ l, x.length ≤ 1048576) → (wipeL l p).kr
 | [], _ => hp
 | k :: l, h => ⟨by have := h k (List.mem_cons_self ..); omega, kr_wipeL hp l fun x hx => h x (List.mem_cons_of_mem _ hx)⟩
theorem kr_wipe' (k : Str) (p : Pr α) (hk : k.length ≤ 2000000) (hp : p.kr) : (wipe' k p : Pr α).kr := by
 unfold wipe'
 repeat' (first | (exact hp) | (refine kr_under hk fun l hl => kr_wipeL hp l hl)  | (assumption) | (exact ⟨by omega, by omega⟩) | omega | (simp only [List.length_append, List.length_cons, List.length_nil]; omega))
theorem kr_unlinkName (n : Str) {f} (hn : n.length ≤ 1048576) (hf : ∀ r0, (f r0).kr) : (unlinkName n f : Pr α).kr := by
 unfold unlinkName
 repeat' (first | (exact hf _)  | (with_reducible refine kr_ite (fun _ => ?_) (fun _ => ?_)) | (with_reducible refine kr_num ?_ fun _ _ _ => ?_) | (with_reducible refine kr_setNum ?_ ?_) | (with_reducible refine kr_lay ?_ ?_) | (with_reducible refine kr_fileOf _ ?_ (fun _ _ _ => ?_)) | (with_reducible refine kr_wipe' _ _ ?_ ?_) | (assumption) | (exact ⟨by omega, by omega⟩) | omega | (refine rl1 ⟨by omega, by omega⟩ (by decide)) | (simp only [List.length_append, List.length_cons, List.length_nil]; omega))
theorem kr_renameName (a b : Str) {f} (ha : a.length ≤ 1048576) (hb : b.length ≤ 1048576) (hf : ∀ r0, (f r0).kr) : (renameName a b f : Pr α).kr := by
 unfold renameName
 repeat' (first | (exact hf _)  | (with_reducible refine kr_ite (fun _ => ?_) (fun _ => ?_)) | (with_reducible refine kr_setNum ?_ ?_) | (with_reducible refine kr_lay ?_ ?_) | (with_reducible refine kr_fileOf _ ?_ (fun _ _ _ => ?_)) | (with_reducible refine kr_unlinkName _ ?_ (fun _ => ?_)) | (assumption) | (exact ⟨by omega, by omega⟩) | omega | (simp only [List.length_append, List.length_cons, List.length_nil]; omega))
theorem kr_names  {f}  (hf : ∀ r0, (f r0).kr) : (names  f : Pr α).kr := by
 unfold names
 repeat' (first | (exact hf _) | (refine kr_under (by decide) fun l hl => hf _)  | (assumption) | (exact ⟨by omega, by omega⟩) | omega | (simp only [List.length_append, List.length_cons, List.length_nil]; omega))
theorem kr_sizeOf (a : Int) {f} (hra : (-9223372036854775808 ≤ a ∧ a ≤ 9223372036854775807)) (hf : ∀ r0, 0 ≤ r0 → r0 ≤ 1000 → (f r0).kr) : (sizeOf a f : Pr α).kr := by
 unfold sizeOf
 repeat' (first | (apply hf <;> omega)  | (with_reducible refine kr_num ?_ fun _ _ _ => ?_) | (assumption) | (exact ⟨by omega, by omega⟩) | omega | (refine rl1 ⟨by omega, by omega⟩ (by decide)) | (simp only [List.length_append, List.length_cons, List.length_nil]; omega))
theorem kr_block (a b : Int) {f} (hra : (-9223372036854775808 ≤ a ∧ a ≤ 9223372036854775807)) (hrb : (-9223372036854775808 ≤ b ∧ b ≤ 9223372036854775807)) (hf : ∀ r0, (f r0).kr) : (block a b f : Pr α).kr := by
 unfold block
 repeat' (first | (exact hf _) | (exact ⟨rl2 hra hrb (by decide), fun _ => hf _⟩)  | (with_reducible refine kr_look ?_ fun _ => ?_) | (assumption) | (exact ⟨by omega, by omega⟩) | omega | (refine rl2 ⟨by omega, by omega⟩ ⟨by omega, by omega⟩ (by decide)) | (refine rl1 ⟨by omega, by omega⟩ (by decide)) | (simp only [List.length_append, List.length_cons, List.length_nil]; omega))
theorem kr_makePipe  {f}  (hf : ∀ r0 r1, (f r0 r1).kr) : (makePipe  f : Pr α).kr := by
 unfold makePipe
 repeat' (first | (exact hf _ _)  | (with_reducible refine kr_ite (fun _ => ?_) (fun _ => ?_)) | (with_reducible refine kr_num ?_ fun _ _ _ => ?_) | (with_reducible refine kr_setNum ?_ ?_) | (with_reducible refine kr_bump _ ?_ (fun _ _ _ => ?_)) | (assumption) | (exact ⟨by omega, by omega⟩) | omega | (refine rl1 ⟨by omega, by omega⟩ (by decide)) | (simp only [List.length_append, List.length_cons, List.length_nil]; omega))
theorem kr_isPipe (a : Int) {f} (hra : (-9223372036854775808 ≤ a ∧ a ≤ 9223372036854775807)) (hf : ∀ r0, (f r0).kr) : (isPipe a f : Pr α).kr := by
 unfold isPipe
 repeat' (first | (exact hf _)  | (with_reducible refine kr_num ?_ fun _ _ _ => ?_) | (assumption) | (exact ⟨by omega, by omega⟩) | omega | (refine rl1 ⟨by omega, by omega⟩ (by decide)) | (simp only [List.length_append, List.length_cons, List.length_nil]; omega))
theorem kr_putPipe (a : Int) (x : Str) {f} (hra : (-9223372036854775808 ≤ a ∧ a ≤ 9223372036854775807)) (hf : ∀ r0, (f r0).kr) : (putPipe a x f : Pr α).kr := by
 unfold putPipe
 repeat' (first | (exact hf _)  | (with_reducible refine kr_ite (fun _ => ?_) (fun _ => ?_)) | (with_reducible refine kr_num ?_ fun _ _ _ => ?_) | (with_reducible refine kr_setNum ?_ ?_) | (with_reducible refine kr_lay ?_ ?_) | (with_reducible refine kr_isPipe _ ?_ (fun _ => ?_)) | (assumption) | (exact ⟨by omega, by omega⟩) | omega | (refine rl2 ⟨by omega, by omega⟩ ⟨by omega, by omega⟩ (by decide)) | (refine rl1 ⟨by omega, by omega⟩ (by decide)) | (simp only [List.length_append, List.length_cons, List.length_nil]; omega))
theorem kr_takePipe (a : Int) {f} (hra : (-9223372036854775808 ≤ a ∧ a ≤ 9223372036854775807)) (hf : ∀ r0 r1, (f r0 r1).kr) : (takePipe a f : Pr α).kr := by
 unfold takePipe
 repeat' (first | (exact hf _ _)  | (with_reducible refine kr_ite (fun _ => ?_) (fun _ => ?_)) | (with_reducible refine kr_num ?_ fun _ _ _ => ?_) | (with_reducible refine kr_setNum ?_ ?_) | (with_reducible refine kr_lay ?_ ?_) | (with_reducible refine kr_message _ ?_ (fun _ => ?_)) | (with_reducible refine kr_isPipe _ ?_ (fun _ => ?_)) | (assumption) | (exact ⟨by omega, by omega⟩) | omega | (refine rl2 ⟨by omega, by omega⟩ ⟨by omega, by omega⟩ (by decide)) | (refine rl1 ⟨by omega, by omega⟩ (by decide)) | (simp only [List.length_append, List.length_cons, List.length_nil]; omega))
theorem kr_state (a : Int) {f} (hra : (-9223372036854775808 ≤ a ∧ a ≤ 9223372036854775807)) (hf : ∀ r0, 0 ≤ r0 → r0 ≤ 1000 → (f r0).kr) : (state a f : Pr α).kr := by
 unfold state
 repeat' (first | (apply hf <;> omega)  | (with_reducible refine kr_num ?_ fun _ _ _ => ?_) | (assumption) | (exact ⟨by omega, by omega⟩) | omega | (refine rl1 ⟨by omega, by omega⟩ (by decide)) | (simp only [List.length_append, List.length_cons, List.length_nil]; omega))
theorem kr_spawn (a : Int) {f}  (hf : ∀ r0 r1, 0 ≤ r0 → r0 ≤ 1000 → (f r0 r1).kr) : (spawn a f : Pr α).kr := by
 unfold spawn
 repeat' (first | (apply hf <;> omega)  | (with_reducible refine kr_ite (fun _ => ?_) (fun _ => ?_)) | (with_reducible refine kr_num ?_ fun _ _ _ => ?_) | (with_reducible refine kr_setNum ?_ ?_) | (with_reducible refine kr_bump _ ?_ (fun _ _ _ => ?_)) | (assumption) | (exact ⟨by omega, by omega⟩) | omega | (refine rl1 ⟨by omega, by omega⟩ (by decide)) | (simp only [List.length_append, List.length_cons, List.length_nil]; omega))
theorem kr_endProc (a b : Int) {f} (hra : (-9223372036854775808 ≤ a ∧ a ≤ 9223372036854775807)) (hf : ∀ r0, (f r0).kr) : (endProc a b f : Pr α).kr := by
 unfold endProc
 repeat' (first | (exact hf _)  | (with_reducible refine kr_ite (fun _ => ?_) (fun _ => ?_)) | (with_reducible refine kr_setNum ?_ ?_) | (with_reducible refine kr_state _ ?_ (fun _ _ _ => ?_)) | (assumption) | (exact ⟨by omega, by omega⟩) | omega | (refine rl1 ⟨by omega, by omega⟩ (by decide)) | (simp only [List.length_append, List.length_cons, List.length_nil]; omega))
theorem kr_reap (a b : Int) {f} (hrb : (-9223372036854775808 ≤ b ∧ b ≤ 9223372036854775807)) (hf : ∀ r0 r1, (f r0 r1).kr) : (reap a b f : Pr α).kr := by
 unfold reap
 repeat' (first | (exact hf _ _)  | (with_reducible refine kr_ite (fun _ => ?_) (fun _ => ?_)) | (with_reducible refine kr_num ?_ fun _ _ _ => ?_) | (with_reducible refine kr_wipe' _ _ ?_ ?_) | (with_reducible refine kr_state _ ?_ (fun _ _ _ => ?_)) | (assumption) | (exact ⟨by omega, by omega⟩) | omega | (refine rl1 ⟨by omega, by omega⟩ (by decide)) | (simp only [List.length_append, List.length_cons, List.length_nil]; omega))
theorem kr_kidsL {a : Int} {f : List Int → Pr α} (hf : ∀ o, (f o).kr) : ∀ (l : List Str) (o : List Int), (∀ x ∈ l, x.length ≤ 1048576) → (kidsL a l o f).kr
 | [], o, _ => hf o
 | k :: l, o, h => by
   have hk := h k (List.mem_cons_self ..)
   have hl : ∀ x ∈ l, x.length ≤ 1048576 := fun x hx => h x (List.mem_cons_of_mem _ hx)
   unfold kidsL
   split
   · refine kr_num (by omega) fun n _ _ => ?_
     split
     · exact kr_kidsL hf l _ hl
     · exact kr_kidsL hf l _ hl
   · exact kr_kidsL hf l _ hl
theorem kr_kids (a : Int) {f}  (hf : ∀ r0, (f r0).kr) : (kids a f : Pr α).kr := by
 unfold kids
 repeat' (first | (exact hf _) | (refine kr_under (by decide) fun l hl => kr_kidsL hf l _ hl)  | (assumption) | (exact ⟨by omega, by omega⟩) | omega | (simp only [List.length_append, List.length_cons, List.length_nil]; omega))
theorem kr_send (a b : Int) {f} (hra : (-9223372036854775808 ≤ a ∧ a ≤ 9223372036854775807)) (hf : ∀ r0, (f r0).kr) : (send a b f : Pr α).kr := by
 unfold send
 repeat' (first | (exact hf _)  | (with_reducible refine kr_ite (fun _ => ?_) (fun _ => ?_)) | (with_reducible refine kr_num ?_ fun _ _ _ => ?_) | (with_reducible refine kr_setNum ?_ ?_) | (with_reducible refine kr_state _ ?_ (fun _ _ _ => ?_)) | (assumption) | (exact ⟨by omega, by omega⟩) | omega | (refine rl2 ⟨by omega, by omega⟩ ⟨by omega, by omega⟩ (by decide)) | (refine rl1 ⟨by omega, by omega⟩ (by decide)) | (simp only [List.length_append, List.length_cons, List.length_nil]; omega))
theorem kr_takeSignal (a : Int) {f} (hra : (-9223372036854775808 ≤ a ∧ a ≤ 9223372036854775807)) (hf : ∀ r0 r1, (f r0 r1).kr) : (takeSignal a f : Pr α).kr := by
 unfold takeSignal
 repeat' (first | (exact hf _ _)  | (with_reducible refine kr_ite (fun _ => ?_) (fun _ => ?_)) | (with_reducible refine kr_num ?_ fun _ _ _ => ?_) | (with_reducible refine kr_setNum ?_ ?_) | (with_reducible refine kr_lay ?_ ?_) | (assumption) | (exact ⟨by omega, by omega⟩) | omega | (refine rl2 ⟨by omega, by omega⟩ ⟨by omega, by omega⟩ (by decide)) | (refine rl1 ⟨by omega, by omega⟩ (by decide)) | (simp only [List.length_append, List.length_cons, List.length_nil]; omega))
theorem kr_setTimer (a b : Int) {f} (hra : (-9223372036854775808 ≤ a ∧ a ≤ 9223372036854775807)) (hf : ∀ r0, (f r0).kr) : (setTimer a b f : Pr α).kr := by
 unfold setTimer
 repeat' (first | (exact hf _)  | (with_reducible refine kr_ite (fun _ => ?_) (fun _ => ?_)) | (with_reducible refine kr_setNum ?_ ?_) | (assumption) | (exact ⟨by omega, by omega⟩) | omega | (refine rl1 ⟨by omega, by omega⟩ (by decide)) | (simp only [List.length_append, List.length_cons, List.length_nil]; omega))
theorem kr_tickL {a : Int} {f : Int → Pr α} (hf : ∀ o, (f o).kr) : ∀ (l : List Str) (o : Int), (∀ x ∈ l, x.length ≤ 1048576) → (tickL a l o f).kr
 | [], o, _ => hf o
 | k :: l, o, h => by
   have hk := h k (List.mem_cons_self ..)
   have hl : ∀ x ∈ l, x.length ≤ 1048576 := fun x hx => h x (List.mem_cons_of_mem _ hx)
   have hq := numOf_lo (k.drop 2)
   unfold tickL
   refine kr_num (by omega) fun n _ _ => ?_
   split
   · exact kr_tickL hf l _ hl
   · refine kr_lay (by omega) (kr_send _ _ ⟨by omega, by omega⟩ fun _ => kr_tickL hf l _ hl)
theorem kr_tick (a : Int) {f}  (hf : ∀ r0 r1, (f r0 r1).kr) : (tick a f : Pr α).kr := by
 unfold tick
 repeat' (first | (exact hf _ _) | (refine kr_under (by decide) fun l hl => kr_tickL (fun _ => hf _ _) l _ hl)  | (with_reducible refine kr_ite (fun _ => ?_) (fun _ => ?_)) | (with_reducible refine kr_num ?_ fun _ _ _ => ?_) | (with_reducible refine kr_setNum ?_ ?_) | (assumption) | (exact ⟨by omega, by omega⟩) | omega | (simp only [List.length_append, List.length_cons, List.length_nil]; omega))
theorem kr_storePage (a b : Int) (x : Str) {f} (hra : (-9223372036854775808 ≤ a ∧ a ≤ 9223372036854775807)) (hf : ∀ r0, (f r0).kr) : (storePage a b x f : Pr α).kr := by
 unfold storePage
 repeat' (first | (exact hf _)  | (with_reducible refine kr_ite (fun _ => ?_) (fun _ => ?_)) | (with_reducible refine kr_lay ?_ ?_) | (assumption) | (exact ⟨by omega, by omega⟩) | omega | (refine rl2 ⟨by omega, by omega⟩ ⟨by omega, by omega⟩ (by decide)) | (refine rl1 ⟨by omega, by omega⟩ (by decide)) | (simp only [List.length_append, List.length_cons, List.length_nil]; omega))
theorem kr_loadPage (a b : Int) {f} (hra : (-9223372036854775808 ≤ a ∧ a ≤ 9223372036854775807)) (hf : ∀ r0 r1, (f r0 r1).kr) : (loadPage a b f : Pr α).kr := by
 unfold loadPage
 repeat' (first | (exact hf _ _)  | (with_reducible refine kr_ite (fun _ => ?_) (fun _ => ?_)) | (with_reducible refine kr_message _ ?_ (fun _ => ?_)) | (assumption) | (exact ⟨by omega, by omega⟩) | omega | (refine rl2 ⟨by omega, by omega⟩ ⟨by omega, by omega⟩ (by decide)) | (refine rl1 ⟨by omega, by omega⟩ (by decide)) | (simp only [List.length_append, List.length_cons, List.length_nil]; omega))
theorem kr_forkL {k : Nat} {a : Int} {p : Pr α} (hra : (-9223372036854775808 ≤ a ∧ a ≤ 9223372036854775807)) (hp : p.kr) : ∀ l : List Str, (∀ x ∈ l, x.length ≤ 1048576) → (forkL k a l p).kr
 | [], _ => hp
 | x :: l, h => ⟨by have := h x (List.mem_cons_self ..); omega, fun v => by
   have hx := h x (List.mem_cons_self ..)
   have h2 := keyNum_len hra.1 hra.2 (Nat.le_refl (List.length ([109, 47] : Str))) (Nat.le_refl (List.length ([47] : Str)))
   refine ⟨?_, kr_forkL hra hp l fun x hx => h x (List.mem_cons_of_mem _ hx)⟩
   simp only [List.length_append, List.length_drop, List.length_cons, List.length_nil] at *
   omega⟩
theorem kr_forkPages (a b : Int) (p : Pr α) (hra : (-9223372036854775808 ≤ a ∧ a ≤ 9223372036854775807)) (hrb : (-9223372036854775808 ≤ b ∧ b ≤ 9223372036854775807)) (hp : p.kr) : (forkPages a b p : Pr α).kr := by
 unfold forkPages
 repeat' (first | (exact hp) | (refine kr_under (rl1 hra (by decide)) fun l hl => kr_forkL hrb hp l hl)  | (assumption) | (exact ⟨by omega, by omega⟩) | omega | (refine rl1 ⟨by omega, by omega⟩ (by decide)) | (simp only [List.length_append, List.length_cons, List.length_nil]; omega))
theorem kr_dropPages (a : Int) (p : Pr α) (hra : (-9223372036854775808 ≤ a ∧ a ≤ 9223372036854775807)) (hp : p.kr) : (dropPages a p : Pr α).kr := by
 unfold dropPages
 repeat' (first | (exact hp)  | (with_reducible refine kr_wipe' _ _ ?_ ?_) | (assumption) | (exact ⟨by omega, by omega⟩) | omega | (refine rl1 ⟨by omega, by omega⟩ (by decide)) | (simp only [List.length_append, List.length_cons, List.length_nil]; omega))
theorem kr_putOut (x : Str) {f}  (hf : ∀ r0, (f r0).kr) : (putOut x f : Pr α).kr := by
 unfold putOut
 repeat' (first | (exact hf _)  | (with_reducible refine kr_ite (fun _ => ?_) (fun _ => ?_)) | (with_reducible refine kr_num ?_ fun _ _ _ => ?_) | (with_reducible refine kr_setNum ?_ ?_) | (with_reducible refine kr_lay ?_ ?_) | (assumption) | (exact ⟨by omega, by omega⟩) | omega | (refine rl1 ⟨by omega, by omega⟩ (by decide)) | (simp only [List.length_append, List.length_cons, List.length_nil]; omega))
theorem kr_readL {a : Int} {b e : Nat} {f : Str → Pr α} (hra : (-9223372036854775808 ≤ a ∧ a ≤ 9223372036854775807)) (hf : ∀ o, (f o).kr) : ∀ (k p : Nat) (o : Str), p + k ≤ 1000 → (readL a b e k p o f).kr
 | 0, p, o, _ => hf o
 | k + 1, p, o, h => by
   unfold readL
   split
   · exact kr_block _ _ hra ⟨by omega, by omega⟩ fun b => kr_readL hra hf k _ _ (by omega)
   · exact hf o
theorem kr_readFile (a b c : Int) {f} (hra : (-9223372036854775808 ≤ a ∧ a ≤ 9223372036854775807)) (hf : ∀ r0, (f r0).kr) : (readFile a b c f : Pr α).kr := by
 unfold readFile
 repeat' (first | (exact hf _) | (refine kr_readL hra hf _ _ _ (by omega))  | (with_reducible refine kr_ite (fun _ => ?_) (fun _ => ?_)) | (with_reducible refine kr_sizeOf _ ?_ (fun _ _ _ => ?_)) | (assumption) | (exact ⟨by omega, by omega⟩) | omega | (simp only [List.length_append, List.length_cons, List.length_nil]; omega))
theorem kr_writeL {a : Int} {x : Str} {b e : Nat} {q : Pr α} (hra : (-9223372036854775808 ≤ a ∧ a ≤ 9223372036854775807)) (hq : q.kr) : ∀ (k p : Nat), p + k ≤ 1000 → (writeL a x b e k p q).kr
 | 0, p, _ => hq
 | k + 1, p, h => by
   unfold writeL
   split
   · exact kr_block _ _ hra ⟨by omega, by omega⟩ fun b => kr_lay (rlb hra (by omega)) (kr_writeL hra hq k _ (by omega))
   · exact hq
theorem kr_writeFile (a b : Int) (x : Str) {f} (hra : (-9223372036854775808 ≤ a ∧ a ≤ 9223372036854775807)) (hf : ∀ r0, (f r0).kr) : (writeFile a b x f : Pr α).kr := by
 unfold writeFile
 repeat' (first | (exact hf _) | (refine kr_writeL hra ?_ _ _ (by omega))  | (with_reducible refine kr_ite (fun _ => ?_) (fun _ => ?_)) | (with_reducible refine kr_setNum ?_ ?_) | (with_reducible refine kr_sizeOf _ ?_ (fun _ _ _ => ?_)) | (assumption) | (exact ⟨by omega, by omega⟩) | omega | (refine rl1 ⟨by omega, by omega⟩ (by decide)) | (simp only [List.length_append, List.length_cons, List.length_nil]; omega))
theorem kr_cutL {a : Int} {z : Nat} {q : Pr α} (hra : (-9223372036854775808 ≤ a ∧ a ≤ 9223372036854775807)) (hq : q.kr) : ∀ (k p : Nat), p + k ≤ 1000 → (cutL a z k p q).kr
 | 0, p, _ => hq
 | k + 1, p, h => by
   unfold cutL
   split
   · exact kr_lay (rlb hra (by omega)) (kr_cutL hra hq k _ (by omega))
   · exact hq
theorem kr_cutFile (a b : Int) {f} (hra : (-9223372036854775808 ≤ a ∧ a ≤ 9223372036854775807)) (hf : ∀ r0, (f r0).kr) : (cutFile a b f : Pr α).kr := by
 unfold cutFile
 repeat' (first | (exact hf _) | (refine kr_cutL hra ?_ _ _ (by omega))  | (with_reducible refine kr_ite (fun _ => ?_) (fun _ => ?_)) | (with_reducible refine kr_setNum ?_ ?_) | (with_reducible refine kr_lay ?_ ?_) | (with_reducible refine kr_sizeOf _ ?_ (fun _ _ _ => ?_)) | (with_reducible refine kr_block _ _ ?_ ?_ (fun _ => ?_)) | (assumption) | (exact ⟨by omega, by omega⟩) | omega | (refine rl1 ⟨by omega, by omega⟩ (by decide)) | (refine rlb ⟨by omega, by omega⟩ (by omega)) | (simp only [List.length_append, List.length_cons, List.length_nil]; omega))
theorem kr_doFile (c : CL) {f} (hc : c.ok 1048576) (hf : ∀ r0, (f r0).kr) : (doFile c f : Pr α).kr := by
 unfold doFile
 obtain ⟨⟨_, _⟩, ⟨_, _⟩, ⟨_, _⟩, _, _, _⟩ := id hc
 repeat' (first | (exact hf _)  | (with_reducible refine kr_ite (fun _ => ?_) (fun _ => ?_)) | (with_reducible refine kr_fileOf _ ?_ (fun _ _ _ => ?_)) | (with_reducible refine kr_readFile _ _ _ ?_ (fun _ => ?_)) | (with_reducible refine kr_writeFile _ _ _ ?_ (fun _ => ?_)) | (with_reducible refine kr_cutFile _ _ ?_ (fun _ => ?_)) | (assumption) | (exact ⟨by omega, by omega⟩) | omega | (simp only [List.length_append, List.length_cons, List.length_nil]; omega))
theorem kr_doProc (a : Int) (c : CL) {f} (hra : (-9223372036854775808 ≤ a ∧ a ≤ 9223372036854775807)) (hc : c.ok 1048576) (hf : ∀ r0, (f r0).kr) : (doProc a c f : Pr α).kr := by
 unfold doProc
 obtain ⟨⟨_, _⟩, ⟨_, _⟩, ⟨_, _⟩, _, _, _⟩ := id hc
 repeat' (first | (exact hf _)  | (with_reducible refine kr_ite (fun _ => ?_) (fun _ => ?_)) | (with_reducible refine kr_spawn _ (fun _ _ _ _ => ?_)) | (with_reducible refine kr_endProc _ _ ?_ (fun _ => ?_)) | (with_reducible refine kr_reap _ _ ?_ (fun _ _ => ?_)) | (with_reducible refine kr_kids _ (fun _ => ?_)) | (with_reducible refine kr_forkPages _ _ _ ?_ ?_ ?_) | (with_reducible refine kr_dropPages _ _ ?_ ?_) | (assumption) | (exact ⟨by omega, by omega⟩) | omega | (simp only [List.length_append, List.length_cons, List.length_nil]; omega))
theorem kr_doKind (a : Int) (c : CL) {f} (hra : (-9223372036854775808 ≤ a ∧ a ≤ 9223372036854775807)) (hc : c.ok 1048576) (hf : ∀ r0, (f r0).kr) : (doKind a c f : Pr α).kr := by
 unfold doKind
 obtain ⟨⟨_, _⟩, ⟨_, _⟩, ⟨_, _⟩, _, _, _⟩ := id hc
 repeat' (first | (exact hf _)  | (with_reducible refine kr_ite (fun _ => ?_) (fun _ => ?_)) | (with_reducible refine kr_makeName _ ?_ (fun _ _ => ?_)) | (with_reducible refine kr_linkName _ _ ?_ ?_ (fun _ => ?_)) | (with_reducible refine kr_unlinkName _ ?_ (fun _ => ?_)) | (with_reducible refine kr_renameName _ _ ?_ ?_ (fun _ => ?_)) | (with_reducible refine kr_names (fun _ => ?_)) | (with_reducible refine kr_makePipe (fun _ _ => ?_)) | (with_reducible refine kr_putPipe _ _ ?_ (fun _ => ?_)) | (with_reducible refine kr_takePipe _ ?_ (fun _ _ => ?_)) | (with_reducible refine kr_send _ _ ?_ (fun _ => ?_)) | (with_reducible refine kr_takeSignal _ ?_ (fun _ _ => ?_)) | (with_reducible refine kr_setTimer _ _ ?_ (fun _ => ?_)) | (with_reducible refine kr_tick _ (fun _ _ => ?_)) | (with_reducible refine kr_storePage _ _ _ ?_ (fun _ => ?_)) | (with_reducible refine kr_loadPage _ _ ?_ (fun _ _ => ?_)) | (with_reducible refine kr_putOut _ (fun _ => ?_)) | (with_reducible refine kr_doFile _ ?_ (fun _ => ?_)) | (with_reducible refine kr_doProc _ _ ?_ ?_ (fun _ => ?_)) | (assumption) | (exact ⟨by omega, by omega⟩) | omega | (simp only [List.length_append, List.length_cons, List.length_nil]; omega))
theorem kr_doCall (a : Int) (c : CL) (hra : (-9223372036854775808 ≤ a ∧ a ≤ 9223372036854775807)) (hc : c.ok 1048576) : (doCall a c).kr := by
 unfold doCall
 refine kr_state _ hra fun s _ _ => ?_
 split
 · split
   · exact kr_doKind a c hra hc fun _ => trivial
   · trivial
 · trivial
end Pr
theorem callTr_w {s : List Cell} {a : Int} {c : CL} (hra : (-9223372036854775808 ≤ a ∧ a ≤ 9223372036854775807)) (hc : c.ok 1048576) (hs : Pr.okKeys s) : ∀ k ∈ (callTr s a c).w, k.length ≤ 3000000 := Pr.kr_trw _ s (Pr.kr_doCall a c hra hc) hs
theorem callTr_keys {s : List Cell} (hs : Pr.okKeys s) (a : Int) (c : CL) : Pr.okKeys (callTr s a c).s := Pr.okKeys_tr _ s hs
end Go.Proofs.YthlfmbbaomdciaaGreatDoor
namespace Go.Proofs.YthlfmbbaomdciaaGreatDoor
open Go Go.RowKit
/-- The keys of w, laid over s as they stand in a. -/
def laidW (s a : List Cell) (w : List Str) : List Cell := w.foldl (fun s k => putKey s k (getKey a k)) s
def okW (l : List Str) : Prop := ∀ k ∈ l, k.length ≤ 3000000
theorem okW.add {l xs : List Str} (h : okW l) (hx : okW xs) : okW (xs.foldl addSpan l) := fun k hk => by
 rcases mem_addAll.1 hk with hk | hk
 · exact hx k hk
 · exact h k hk
theorem okC'.keys {n : Nat} {s : List Cell} (h : okC' n 1048576 s) : Pr.okKeys s := fun c hc => (h.2 c hc).1
theorem stepsTr_len : ∀ (l : List SP) (s : List Cell), (stepsTr s l).v.length = l.length
 | [], s => rfl
 | p :: l, s => by rw [stepsTr]; dsimp only; rw [List.length_cons, stepsTr_len l, List.length_cons]
theorem okW_steps : ∀ (l : List SP) {s : List Cell}, Pr.okKeys s → (∀ p ∈ l, p.call.ok 1048576 ∧ -9223372036854775808 ≤ p.proc ∧ p.proc ≤ 9223372036854775807) → okW (stepsTr s l).w
 | [], s, _, _ => fun k hk => by cases hk
 | p :: l, s, h, hl => fun k hk => by
   have hp := hl p (List.mem_cons_self ..)
   rcases List.mem_append.1 hk with hk | hk
   · exact callTr_w ⟨hp.2.1, hp.2.2⟩ hp.1 h k hk
   · exact okW_steps l (callTr_keys h _ _) (fun q hq => hl q (List.mem_cons_of_mem _ hq)) k hk
structure bInv (s : List Cell) (l : List SP) (r w : List Str) (M : List Int) (P : Int) (i j : Nat) (t : TD) : Prop where
 s1 : t.state = 1
 p : t.proc = P
 q : 0 ≤ P ∧ P ≤ 9
 n : t.calls.length = i
 c : t.calls = (l.take i).map SP.call
 a : t.ans = (stepsTr s (stepsOf t)).v
 rd : t.rd = (stepsTr s (stepsOf t)).r.foldl addSpan r
 wr : t.wr = (stepsTr s (stepsOf t)).w.foldl addSpan w
 rl : t.rd.length ≤ j * 20000000
 wl : t.wr.length ≤ j * 20000000
 m : t.marks = M
section
variable {s : List Cell} {l : List SP} {r w : List Str} {M M' : List Int} {P : Int} {i j : Nat} {t z y : TD}
theorem bInv.ns (h : bInv s l r w M P i j t) : (stepsOf t).length = i := by rw [stepsOf, List.length_map]; exact h.n
theorem bInv.lim (h : bInv s l r w M P i j t) (hi : i ≤ 12) (hj : j ≤ 24) (hM : M.length ≤ 4) : t.lim 500000000 := ⟨by have := h.n; omega, by rw [h.a, stepsTr_len, h.ns]; omega, by have := h.rl; omega, by have := h.wl; omega, by rw [h.m]; omega⟩
theorem bInv.okc (h : bInv s l r w M P i j t) (hl : okSteps l) : ∀ c ∈ t.calls, c.ok 1048576 := fun c hc => by
 rw [h.c] at hc
 obtain ⟨p, hp, rfl⟩ := List.mem_map.1 hc
 obtain ⟨k, hk, rfl⟩ := List.getElem_of_mem (List.mem_of_mem_take hp)
 have := (hl k hk).1
 rwa [List.getD_eq_getElem?_getD, List.getElem?_eq_getElem hk] at this
theorem bInv.okT (h : bInv s l r w M P i j t) (hl : okSteps l) (hi : i ≤ 12) : okT t := ⟨h.okc hl, by have := h.n; omega, by rw [h.p]; have := h.q; omega⟩
theorem bInv.okW (h : bInv s l r w M P i j t) (hl : okSteps l) {n : Nat} (hs : okC' n 1048576 s) (hw : okW w) : okW t.wr := by
 rw [h.wr]
 refine hw.add (okW_steps _ hs.keys fun p hp => ?_)
 obtain ⟨c, hc, rfl⟩ := List.mem_map.1 hp
 exact ⟨h.okc hl c hc, by dsimp only; rw [h.p]; have := h.q; omega, by dsimp only; rw [h.p]; have := h.q; omega⟩
theorem bInv.back (h : bInv s l r w [0] P i j t) (e : z = (t.back 1).1) : (t.back 1).2 = true ∧ bInv s l t.rd t.wr [] P 0 j z := by
 have hb : t.back 1 = ({ t with calls := [], ans := [], marks := [] }, true) := by
   rw [TD.back, if_pos ⟨h.s1, Int.le_refl 1, by rw [h.m]; decide⟩, h.m]
   simp [bro]
 rw [hb] at e ⊢
 refine ⟨rfl, ?_⟩
 subst e
 exact ⟨h.s1, h.p, h.q, rfl, rfl, rfl, rfl, rfl, h.rl, h.wl, rfl⟩
end
theorem ordC.get : ∀ {s : List Cell}, ordC s → ∀ c ∈ s, getKey s c.1 = c.2
 | [], _, c, hc => by cases hc
 | d :: s, h, c, hc => by
   obtain ⟨h1, h2⟩ := List.pairwise_cons.1 h
   rw [getKey]
   rcases List.mem_cons.1 hc with rfl | hc
   · rw [if_pos rfl]
   · have := h1 c hc
     rw [if_neg (fun e => by rw [e, bl_irr] at this; cases this)]
     exact ordC.get h2 c hc
theorem ordC.ext : ∀ {a b : List Cell}, ordC a → ordC b → (∀ c, c ∈ a ↔ c ∈ b) → a = b
 | [], [], _, _, _ => rfl
 | [], y :: b, _, _, h => by have := (h y).2 (List.mem_cons_self ..); cases this
 | x :: a, [], _, _, h => by have := (h x).1 (List.mem_cons_self ..); cases this
 | x :: a, y :: b, ha, hb, h => by
   obtain ⟨a1, a2⟩ := List.pairwise_cons.1 ha
   obtain ⟨b1, b2⟩ := List.pairwise_cons.1 hb
   have hxy : x = y := by
     rcases List.mem_cons.1 ((h x).1 (List.mem_cons_self ..)) with h1 | h1
     · exact h1
     · rcases List.mem_cons.1 ((h y).2 (List.mem_cons_self ..)) with h2 | h2
       · exact h2.symm
       · have h3 := bl_trans (a1 y h2) (b1 x h1)
         rw [bl_irr] at h3; cases h3
   subst hxy
   rw [ordC.ext a2 b2 fun z => ⟨fun hz => ?_, fun hz => ?_⟩]
   · rcases List.mem_cons.1 ((h z).1 (List.mem_cons_of_mem _ hz)) with rfl | h1
     · have h3 := a1 z hz; rw [bl_irr] at h3; cases h3
     · exact h1
   · rcases List.mem_cons.1 ((h z).2 (List.mem_cons_of_mem _ hz)) with rfl | h1
     · have h3 := b1 z hz; rw [bl_irr] at h3; cases h3
     · exact h1
theorem stOk.ext {a b : List Cell} (ha : stOk a) (hb : stOk b) (h : ∀ k, getKey a k = getKey b k) : a = b := by
 have half : ∀ {a b : List Cell}, stOk a → (∀ k, getKey a k = getKey b k) → ∀ c ∈ a, c ∈ b := by
   intro a b ha h c hc
   have h1 := ha.o.get c hc
   rcases getKey_mem (s := b) (key := c.1) with h2 | ⟨d, hd, h3, h4⟩
   · exact absurd (by rw [← h1, h, h2]) (ha.c c hc).2.1
   · rw [← h, h1] at h4
     have : d = c := Prod.ext h3 h4
     rwa [← this]
 exact ha.o.ext hb.o fun c => ⟨half ha h c, half hb (fun k => (h k).symm) c⟩
theorem stOk.val {s : List Cell} (h : stOk s) (k : Str) : (getKey s k).length ≤ 60 := by
 rcases getKey_mem (s := s) (key := k) with h2 | ⟨d, hd, h3, h4⟩
 · rw [h2]; exact Nat.zero_le _
 · rw [← h4]; exact (h.c d hd).2.2
theorem stOk.bad {s : List Cell} (h : stOk s) {k : Str} (hk : ¬ keyOk k = true) : getKey s k = [] := by
 rcases getKey_mem (s := s) (key := k) with h2 | ⟨d, hd, h3, h4⟩
 · exact h2
 · exact absurd (by rw [← h3]; exact (h.c d hd).1) hk
theorem putKey_bad {s : List Cell} {k v : Str} (hk : ¬ keyOk k = true) : putKey s k v = s := by
 unfold putKey
 rw [if_pos (by simp [hk])]
theorem get_laid {a : List Cell} (ha : stOk a) {k : Str} : ∀ (w : List Str) {s : List Cell}, stOk s → getKey (laidW s a w) k = if k ∈ w then getKey a k else getKey s k
 | [], s, _ => rfl
 | x :: w, s, hs => by
   show getKey (laidW (putKey s x (getKey a x)) a w) k = _
   rw [get_laid ha w (hs.put _ _)]
   by_cases hkw : k ∈ w
   · rw [if_pos hkw, if_pos (List.mem_cons_of_mem _ hkw)]
   · rw [if_neg hkw]
     by_cases hx : x = k
     · subst hx
       rw [if_pos (List.mem_cons_self ..)]
       by_cases hk : keyOk x = true
       · by_cases hv : getKey a x = []
         · rw [hv, getKey_put_nil hk]
         · exact getKey_put hk hv (ha.val x)
       · rw [putKey_bad hk, hs.bad hk, ha.bad hk]
     · rw [getKey_put_ne hx, if_neg (fun h => by rcases List.mem_cons.1 h with h | h; exact hx h.symm; exact hkw h)]
theorem stOk.laid {s a : List Cell} (h : stOk s) : ∀ w : List Str, stOk (laidW s a w) := fun w => by
 induction w generalizing s with
 | nil => exact h
 | cons x w ih => exact ih (h.put _ _)
theorem get_tr {α : Type} {k : Str} : ∀ (p : Pr α) (s : List Cell), ¬ k ∈ (p.tr s).w → getKey (p.tr s).s k = getKey s k
 | .ret a, s, _ => rfl
 | .look q f, s, h => get_tr (f (getKey s q)) s h
 | .lay q v p, s, h => by
   have h1 : ¬ q = k := fun e => h (by rw [← e]; exact List.mem_cons_self ..)
   show getKey (p.tr (putKey s q v)).s k = _
   rw [get_tr p _ (fun hm => h (List.mem_cons_of_mem _ hm)), getKey_put_ne h1]
 | .under q f, s, h => get_tr (f (keysUnder s q)) s h
theorem stOk.steps : ∀ (l : List SP) {s : List Cell}, stOk s → stOk (stepsTr s l).s
 | [], s, h => h
 | p :: l, s, h => stOk.steps l (h.tr (Pr.doCall p.proc p.call))
theorem get_steps {k : Str} : ∀ (l : List SP) (s : List Cell), ¬ k ∈ (stepsTr s l).w → getKey (stepsTr s l).s k = getKey s k
 | [], s, _ => rfl
 | p :: l, s, h => by
   show getKey (stepsTr (callTr s p.proc p.call).s l).s k = _
   rw [get_steps l _ (fun hm => h (List.mem_append_right _ hm))]
   exact get_tr (Pr.doCall p.proc p.call) s (fun hm => h (List.mem_append_left _ hm))
/-- What steps leave, laid over the store that they began with. -/
theorem laid_view {s : List Cell} {l : List SP} {w : List Str} (hs : stOk s) (hw : ∀ k ∈ (stepsTr s l).w, k ∈ w) : laidW s (stepsTr s l).s w = (stepsTr s l).s := by
 refine (hs.laid w).ext (hs.steps l) fun k => ?_
 rw [get_laid (hs.steps l) w hs]
 by_cases hk : k ∈ w
 · rw [if_pos hk]
 · rw [if_neg hk, get_steps l s fun h => hk (hw k h)]
/-- Two stores that differ at keys of W alone. -/
def agree (W : List Str) (s t : List Cell) : Prop := ∀ k, ¬ k ∈ W → getKey s k = getKey t k
def off (M : Str → Str → Bool) (r W : List Str) : Prop := ∀ x ∈ r, ∀ k ∈ W, M x k = false
theorem agree.put {W : List Str} {s t : List Cell} (h : agree W s t) (hs : stOk s) (ht : stOk t) (k v : Str) : agree W (putKey s k v) (putKey t k v) := fun q hq => by
 by_cases hk : keyOk k = true
 · by_cases hl : v.length ≤ 60
   · by_cases he : k = q
     · subst he
       by_cases hv : v = []
       · rw [hv, getKey_put_nil hk, getKey_put_nil hk]
       · rw [getKey_put hk hv hl, getKey_put hk hv hl]
     · rw [getKey_put_ne he, getKey_put_ne he]; exact h q hq
   · have : ∀ s : List Cell, putKey s k v = s := fun s => by unfold putKey; rw [if_pos (by simp; omega)]
     rw [this, this]; exact h q hq
 · rw [putKey_bad hk, putKey_bad hk]; exact h q hq
section
variable {s : List Cell} {l l' : List SP} {r w : List Str} {M M' : List Int} {P : Int} {i j : Nat} {t z y : TD}
theorem bInv.laid (h : bInv s l r w M P i j t) (hs : stOk s) : laidW s (viewA s t) t.wr = viewA s t := by
 rw [viewA_tr]
 exact laid_view hs fun k hk => by rw [h.wr]; exact mem_addAll.2 (.inl hk)
end
theorem okSteps.add {l : List SP} {p : SP} (h : okSteps l) (h1 : p.call.ok 1048576) (h2 : -9223372036854775808 ≤ p.proc ∧ p.proc ≤ 9223372036854775807) : okSteps (l ++ [p]) := fun j hj => by
 by_cases hl : j < l.length
 · rw [show (l ++ [p]).getD j p0_ = l.getD j p0_ by simp [List.getD_eq_getElem?_getD, List.getElem?_append_left hl]]
   exact h j hl
 · have he : j = l.length := by simp only [List.length_append, List.length_cons, List.length_nil] at hj; omega
   subst he
   rw [show (l ++ [p]).getD l.length p0_ = p by simp [List.getD_eq_getElem?_getD]]
   exact ⟨h1, h2.1, h2.2⟩
section
variable {s : List Cell} {l : List SP} {r w : List Str} {M : List Int} {P : Int} {i j : Nat} {t z : TD}
theorem bInv.more (h : bInv s l r w M P i j t) (x : SP) (hl : l.length = i) : bInv s (l ++ [x]) r w M P i j t :=
 ⟨h.s1, h.p, h.q, h.n, by rw [h.c, List.take_append_of_le_length (by omega)], h.a, h.rd, h.wr, h.rl, h.wl, h.m⟩
end
end Go.Proofs.YthlfmbbaomdciaaGreatDoor
