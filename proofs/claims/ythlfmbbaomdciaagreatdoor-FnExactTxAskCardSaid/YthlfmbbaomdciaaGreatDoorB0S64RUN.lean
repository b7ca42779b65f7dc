/-
Texts of the walk, joined: what each one proves stands at its theorems.
-/
import Derived.Test.YthlfmbbaomdciaaGreatDoorB0DatTg
set_option linter.unusedSimpArgs false
set_option linter.unusedVariables false
set_option linter.unnecessarySimpa false
namespace Go.Proofs.YthlfmbbaomdciaaGreatDoor
open Go Go.RowKit
/-- How many cells have keys of a kind. -/
def cnt (Q : Str → Bool) (s : List Cell) : Nat := (s.filter fun c => Q c.1).length
section
variable {Q : Str → Bool} {s : List Cell} {k v : Str}
theorem cnt_le : cnt Q s ≤ s.length := List.length_filter_le _ _
theorem cnt_sub {f : Cell → Bool} : cnt Q (s.filter f) ≤ cnt Q s := by
 unfold cnt
 rw [List.filter_filter, show (fun a : Cell => Q a.1 && f a) = (fun a => f a && Q a.1) from funext fun a => Bool.and_comm _ _, ← List.filter_filter]
 exact List.length_filter_le _ _
theorem cnt_ins {i : Nat} {c : Cell} : cnt Q (insertAt i c s) = cnt Q s + if Q c.1 = true then 1 else 0 := by
 unfold cnt insertAt
 rw [List.filter_append, List.filter_cons]
 have h : s.filter (fun c => Q c.1) = (s.take i).filter (fun c => Q c.1) ++ (s.drop i).filter (fun c => Q c.1) := by rw [← List.filter_append, List.take_append_drop]
 rw [h]
 split <;> simp only [List.length_append, List.length_cons] <;> omega
theorem cnt_put : cnt Q (putKey s k v) ≤ cnt Q s + if Q k = true then 1 else 0 := by
 unfold putKey
 split
 · omega
 · dsimp only
   split
   · exact Nat.le_trans cnt_sub (Nat.le_add_right _ _)
   · rw [cnt_ins]
     have := cnt_sub (Q := Q) (s := s) (f := fun c => !decide (c.1 = k))
     dsimp only
     omega
theorem cnt_put_nil : cnt Q (putKey s k []) ≤ cnt Q s := by
 unfold putKey
 split
 · exact Nat.le_refl _
 · dsimp only
   rw [if_pos rfl]
   exact cnt_sub
theorem cnt_eq_all : cnt (fun _ => true) s = s.length := by simp [cnt]
/-- What stands there already is laid without growth. -/
theorem cnt_put_in {c : Cell} (hc : c ∈ s) (hk : c.1 = k) : cnt Q (putKey s k v) ≤ cnt Q s := by
 unfold putKey
 split
 · exact Nat.le_refl _
 · dsimp only
   split
   · exact cnt_sub
   · rw [cnt_ins]
     by_cases hq : Q k = true
     · rw [if_pos hq]
       unfold cnt
       have h1 : (s.filter (fun c => !decide (c.1 = k))).filter (fun c => Q c.1) = (s.filter (fun c => Q c.1)).filter (fun c => !decide (c.1 = k)) := by
         rw [List.filter_filter, List.filter_filter]
         exact congrArg (fun f => s.filter f) (funext fun a => Bool.and_comm _ _)
       rw [h1]
       exact Nat.succ_le_of_lt (List.length_filter_lt_length_iff_exists.2 ⟨c, List.mem_filter.2 ⟨hc, by rw [hk]; exact hq⟩, by simp [hk]⟩)
     · rw [if_neg hq]
       exact cnt_sub
theorem len_put : (putKey s k v).length ≤ s.length + 1 := putKey_len s k v
theorem len_put_in {c : Cell} (hc : c ∈ s) (hk : c.1 = k) : (putKey s k v).length ≤ s.length := by
 have := cnt_put_in (Q := fun _ => true) (v := v) hc hk
 rwa [cnt_eq_all, cnt_eq_all] at this
theorem under_cnt {p : Str} (h : ∀ x, prefixB x p = true → Q x = true) : (keysUnder s p).length ≤ cnt Q s := by
 unfold keysUnder cnt
 rw [List.length_map]
 have : s.filter (fun c => prefixB c.1 p) = (s.filter (fun c => Q c.1)).filter (fun c => prefixB c.1 p) := by
   rw [List.filter_filter]
   refine congrArg (fun f => s.filter f) (funext fun a => ?_)
   cases hp : prefixB a.1 p with
   | false => rfl
   | true => rw [h _ hp]; rfl
 rw [this]
 exact List.length_filter_le _ _
end
namespace Pr
variable {α : Type}
/-- On a store with at most N cells of the kind Q a program adds at most a cells, b of that kind. -/
def sem (Q : Str → Bool) (N : Nat) (p : Pr α) (a b : Nat) : Prop := ∀ s, cnt Q s + b ≤ N → (p.tr s).s.length ≤ s.length + a ∧ cnt Q (p.tr s).s ≤ cnt Q s + b
section
variable {Q : Str → Bool} {N a b : Nat}
theorem sem_mono {p : Pr α} {a' b' : Nat} (h : p.sem Q N a b) (ha : a ≤ a') (hb : b ≤ b') : p.sem Q N a' b' := fun s hs => by
 have := h s (by omega); omega
theorem sem_ret {x : α} : (Pr.ret x).sem Q N a b := fun s _ => ⟨Nat.le_add_right _ _, Nat.le_add_right _ _⟩
theorem sem_look {k : Str} {f : Str → Pr α} (h : ∀ v, (f v).sem Q N a b) : (Pr.look k f).sem Q N a b := fun s hs => h (getKey s k) s hs
theorem sem_lay {k v : Str} {p : Pr α} (hk : Q k = false) (h : p.sem Q N a b) : (Pr.lay k v p).sem Q N (a + 1) b := fun s hs => by
 have h1 := cnt_put (Q := Q) (s := s) (k := k) (v := v)
 have h2 := len_put (s := s) (k := k) (v := v)
 rw [hk] at h1
 simp only [Bool.false_eq_true, if_false, Nat.add_zero] at h1
 have := h (putKey s k v) (by omega)
 exact ⟨by show (p.tr (putKey s k v)).s.length ≤ _; omega, by show cnt Q (p.tr (putKey s k v)).s ≤ _; omega⟩
theorem sem_layQ {k v : Str} {p : Pr α} (h : p.sem Q N a b) : (Pr.lay k v p).sem Q N (a + 1) (b + 1) := fun s hs => by
 have h1 := cnt_put (Q := Q) (s := s) (k := k) (v := v)
 have h2 := len_put (s := s) (k := k) (v := v)
 have h3 : (if Q k = true then 1 else 0) ≤ 1 := by split <;> omega
 have := h (putKey s k v) (by omega)
 exact ⟨by show (p.tr (putKey s k v)).s.length ≤ _; omega, by show cnt Q (p.tr (putKey s k v)).s ≤ _; omega⟩
theorem sem_nil {k : Str} {p : Pr α} (h : p.sem Q N a b) : (Pr.lay k [] p).sem Q N a b := fun s hs => by
 have h1 := cnt_put_nil (Q := Q) (s := s) (k := k)
 have h2 := putKey_nil_len s k
 have := h (putKey s k []) (by omega)
 exact ⟨by show (p.tr (putKey s k [])).s.length ≤ _; omega, by show cnt Q (p.tr (putKey s k [])).s ≤ _; omega⟩
theorem sem_same {x : Str} {p : Str → Pr α} (h : ∀ v, (p v).sem Q N a b) : (Pr.look x fun v => Pr.lay x v (p v)).sem Q N a b := fun s hs => by
 show ((p (getKey s x)).tr (putKey s x (getKey s x))).s.length ≤ _ ∧ cnt Q ((p (getKey s x)).tr (putKey s x (getKey s x))).s ≤ _
 have h1 : cnt Q (putKey s x (getKey s x)) ≤ cnt Q s ∧ (putKey s x (getKey s x)).length ≤ s.length := by
   rcases getKey_mem (s := s) (key := x) with h0 | ⟨c, hc, hk, _⟩
   · rw [h0]; exact ⟨cnt_put_nil, putKey_nil_len s x⟩
   · exact ⟨cnt_put_in hc hk, len_put_in hc hk⟩
 have := h (getKey s x) (putKey s x (getKey s x)) (by omega)
 omega
theorem sem_under {k : Str} {f : List Str → Pr α} (h : ∀ l, (f l).sem Q N a b) : (Pr.under k f).sem Q N a b := fun s hs => h (keysUnder s k) s hs
theorem sem_underQ {k : Str} {f : List Str → Pr α} (hk : ∀ x, prefixB x k = true → Q x = true) (h : ∀ l : List Str, l.length ≤ N → (∀ x ∈ l, prefixB x k = true) → (f l).sem Q N a b) : (Pr.under k f).sem Q N a b := fun s hs =>
 h (keysUnder s k) (by have := under_cnt (s := s) hk; omega) (fun x hx => by
   unfold keysUnder at hx
   obtain ⟨c, hc, rfl⟩ := List.mem_map.1 hx
   exact (List.mem_filter.1 hc).2) s hs
theorem sem_ite {c : Prop} [d : Decidable c] {p q : Pr α} (h1 : c → p.sem Q N a b) (h2 : ¬ c → q.sem Q N a b) : (if c then p else q).sem Q N a b := by split <;> simp_all
theorem sem_num {k : Str} {f : Int → Pr α} (h : ∀ n, (f n).sem Q N a b) : (num k f).sem Q N a b := fun s hs => h _ s hs
theorem sem_setNum {k : Str} {n : Int} {p : Pr α} (hk : Q k = false) (h : p.sem Q N a b) : (setNum k n p).sem Q N (a + 1) b := sem_lay hk h
end
/-- The keys that count: timers, and the pages of the process. -/
def QQ (p : Int) (k : Str) : Bool := prefixB k [116, 47] || prefixB k (keyNum [109, 47] p [47])
theorem pfx_head {c d : UInt8} {k p : Str} (h : ¬ c = d) : prefixB (c :: k) (d :: p) = false := by
 unfold prefixB
 simp only [List.length_cons, List.take_succ_cons, Bool.and_eq_false_iff, decide_eq_false_iff_not, List.cons.injEq, not_and]
 exact .inr fun e => absurd e h
theorem noQ {p : Int} {c : UInt8} {k : Str} (h1 : ¬ c = 116) (h2 : ¬ c = 109) : QQ p (c :: k) = false := by
 unfold QQ
 rw [pfx_head h1]
 show prefixB (c :: k) (109 :: ([47] ++ dec p ++ [47])) = false
 exact pfx_head h2
theorem decDigits_no47 : ∀ (u : Nat), ∀ c ∈ Lib.decDigits u, ¬ c = (47 : UInt8) := by
 intro u
 induction u using Nat.strongRecOn with
 | _ u ih =>
   intro c hc
   rw [Lib.decDigits] at hc
   have key : ∀ d : Nat, d < 10 → ¬ UInt8.ofNat (48 + d) = 47 := fun d hd e => by
     have := congrArg UInt8.toNat e
     simp at this
     omega
   split at hc
   · rename_i h
     simp only [List.mem_singleton] at hc
     subst hc
     exact key u h
   · rename_i h
     rcases List.mem_append.1 hc with hc | hc
     · exact ih (u / 10) (by omega) c hc
     · simp only [List.mem_singleton] at hc
       subst hc
       exact key _ (Nat.mod_lt _ (by decide))
theorem dec_no47 (x : Int) : ∀ c ∈ dec x, ¬ c = (47 : UInt8) := by
 intro c hc
 unfold dec at hc
 rw [Lib.itoa] at hc
 split at hc
 · rcases List.mem_cons.1 hc with rfl | hc
   · decide
   · exact decDigits_no47 _ c hc
 · exact decDigits_no47 _ c hc
theorem upto47 : ∀ {u v y z : Str}, (∀ c ∈ u, ¬ c = (47 : UInt8)) → (∀ c ∈ v, ¬ c = (47 : UInt8)) → u ++ 47 :: y = v ++ 47 :: z → u = v
 | [], [], _, _, _, _, _ => rfl
 | [], c :: v, y, z, _, hv, e => by
   simp only [List.nil_append, List.cons_append, List.cons.injEq] at e
   exact absurd e.1.symm (hv c (List.mem_cons_self ..))
 | c :: u, [], y, z, hu, _, e => by
   simp only [List.nil_append, List.cons_append, List.cons.injEq] at e
   exact absurd e.1 (hu c (List.mem_cons_self ..))
 | c :: u, d :: v, y, z, hu, hv, e => by
   simp only [List.cons_append, List.cons.injEq] at e
   rw [e.1, upto47 (fun x hx => hu x (List.mem_cons_of_mem _ hx)) (fun x hx => hv x (List.mem_cons_of_mem _ hx)) e.2]
theorem pfx_app {s p : Str} (h : prefixB s p = true) : s = p ++ s.drop p.length := by
 unfold prefixB at h
 simp only [Bool.and_eq_true, decide_eq_true_eq] at h
 have := List.take_append_drop p.length s
 rw [h.2] at this
 exact this.symm
theorem pages_off {a b : Int} {y : Str} (h : ¬ keyNum [109, 47] a [47] = keyNum [109, 47] b [47]) : QQ b (keyNum [109, 47] a [47] ++ y) = false := by
 unfold QQ
 have h1 : prefixB (keyNum [109, 47] a [47] ++ y) [116, 47] = false := by
   show prefixB (109 :: _) (116 :: _) = false
   exact pfx_head (by decide)
 rw [h1, Bool.false_or]
 cases hp : prefixB (keyNum [109, 47] a [47] ++ y) (keyNum [109, 47] b [47]) with
 | false => rfl
 | true =>
   exfalso
   have e := pfx_app hp
   unfold keyNum at e h
   simp only [List.append_assoc, List.cons_append, List.nil_append, List.cons.injEq, true_and] at e
   exact h (by rw [upto47 (dec_no47 a) (dec_no47 b) e])
theorem sem_wipeL {Q : Str → Bool} {N a b : Nat} {p : Pr α} (hp : p.sem Q N a b) : ∀ l : List Str, (wipeL l p).sem Q N a b
 | [] => hp
 | k :: l => sem_nil (sem_wipeL hp l)
theorem sem_kidsL {Q : Str → Bool} {N a b : Nat} {x : Int} {f : List Int → Pr α} (hf : ∀ o, (f o).sem Q N a b) : ∀ (l : List Str) (o : List Int), (kidsL x l o f).sem Q N a b
 | [], o => hf o
 | k :: l, o => by
   unfold kidsL
   split
   · refine sem_num fun n => ?_
     split
     · exact sem_kidsL hf l _
     · exact sem_kidsL hf l _
   · exact sem_kidsL hf l _
theorem sem_readL {Q : Str → Bool} {N a b : Nat} {x : Int} {c e : Nat} {f : Str → Pr α} (hf : ∀ o, (f o).sem Q N a b) : ∀ (k p : Nat) (o : Str), (readL x c e k p o f).sem Q N a b
 | 0, p, o => hf o
 | k + 1, p, o => by
   unfold readL
   split
   · exact sem_look fun _ => sem_readL hf k _ _
   · exact hf o
section
variable {N a b : Nat} {p : Int}
theorem sem_writeL {x : Int} {t : Str} {c e : Nat} {q : Pr α} (hq : q.sem (QQ p) N a b) : ∀ (k j : Nat), (writeL x t c e k j q).sem (QQ p) N (a + k) b
 | 0, j => hq
 | k + 1, j => by
   unfold writeL
   split
   · exact sem_look fun _ => sem_lay (noQ (c := 105) (by decide) (by decide)) (sem_writeL hq k _)
   · exact sem_mono hq (Nat.le_add_right _ _) (Nat.le_refl _)
theorem sem_cutL {x : Int} {z : Nat} {q : Pr α} (hq : q.sem (QQ p) N a b) : ∀ (k j : Nat), (cutL x z k j q).sem (QQ p) N a b
 | 0, j => hq
 | k + 1, j => by
   unfold cutL
   split
   · exact sem_nil (sem_cutL hq k _)
   · exact hq
theorem sem_forkL {to_ : Int} {q : Pr α} (hq : q.sem (QQ p) N a b) : ∀ l : List Str, (∀ x ∈ l, prefixB x (keyNum [109, 47] p [47]) = true) → (forkL (keyNum [109, 47] p [47]).length to_ l q).sem (QQ p) N (a + l.length) b
 | [], _ => hq
 | x :: l, h => by
   have ih := sem_forkL (to_ := to_) hq l fun y hy => h y (List.mem_cons_of_mem _ hy)
   by_cases he : keyNum [109, 47] to_ [47] = keyNum [109, 47] p [47]
   · have hx := pfx_app (h x (List.mem_cons_self ..))
     unfold forkL
     rw [he, ← hx]
     exact sem_mono (sem_same fun _ => ih) (by simp only [List.length_cons]; omega) (Nat.le_refl _)
   · exact sem_look fun v => sem_lay (pages_off he) ih
theorem sem_bump (k : Str) {f} (hk : QQ p k = false) (hf : ∀ r0, (f r0).sem (QQ p) N a b) : (bump k f : Pr α).sem (QQ p) N (a + 1) b := by
 unfold bump
 repeat' (first | (exact sem_mono (hf _) (by omega) (by omega)) | (with_reducible refine sem_ite (fun _ => ?_) (fun _ => ?_)) | (with_reducible refine sem_num fun _ => ?_) | (with_reducible refine sem_setNum ?_ ?_) | assumption | (exact noQ (by decide) (by decide)))
theorem sem_message (k : Str) {f}  (hf : ∀ r0, (f r0).sem (QQ p) N a b) : (message k f : Pr α).sem (QQ p) N a b := by
 unfold message
 repeat' (first | (exact sem_look fun _ => hf _) | (exact sem_mono (hf _) (by omega) (by omega)) | (with_reducible refine sem_look fun _ => ?_) | assumption | (exact noQ (by decide) (by decide)))
theorem sem_fileOf (n : Str) {f}  (hf : ∀ r0, (f r0).sem (QQ p) N a b) : (fileOf n f : Pr α).sem (QQ p) N a b := by
 unfold fileOf
 repeat' (first | (exact sem_mono (hf _) (by omega) (by omega)) | (with_reducible refine sem_ite (fun _ => ?_) (fun _ => ?_)) | (with_reducible refine sem_num fun _ => ?_) | assumption | (exact noQ (by decide) (by decide)))
theorem sem_makeName (n : Str) {f}  (hf : ∀ r0 r1, (f r0 r1).sem (QQ p) N a b) : (makeName n f : Pr α).sem (QQ p) N (a + 3) b := by
 unfold makeName
 repeat' (first | (exact sem_mono (hf _ _) (by omega) (by omega)) | (with_reducible refine sem_ite (fun _ => ?_) (fun _ => ?_)) | (with_reducible refine sem_num fun _ => ?_) | (with_reducible refine sem_setNum ?_ ?_) | (with_reducible refine sem_bump _ ?_ (fun _ => ?_)) | (with_reducible refine sem_mono (sem_bump (a := a) (b := b) _ ?_ (fun _ => ?_)) (by omega) (by omega)) | (with_reducible refine sem_fileOf _ (fun _ => ?_)) | assumption | (exact noQ (by decide) (by decide)))
theorem sem_linkName (x y : Str) {f}  (hf : ∀ r0, (f r0).sem (QQ p) N a b) : (linkName x y f : Pr α).sem (QQ p) N (a + 2) b := by
 unfold linkName
 repeat' (first | (exact sem_mono (hf _) (by omega) (by omega)) | (with_reducible refine sem_ite (fun _ => ?_) (fun _ => ?_)) | (with_reducible refine sem_num fun _ => ?_) | (with_reducible refine sem_setNum ?_ ?_) | (with_reducible refine sem_fileOf _ (fun _ => ?_)) | assumption | (exact noQ (by decide) (by decide)))
theorem sem_wipe' (k : Str) (q : Pr α)  (hq : q.sem (QQ p) N a b) : (wipe' k q : Pr α).sem (QQ p) N a b := by
 unfold wipe'
 repeat' (first | (exact sem_under fun l => sem_wipeL hq l) | (exact sem_mono hq (by omega) (by omega)) | assumption | (exact noQ (by decide) (by decide)))
theorem sem_unlinkName (n : Str) {f}  (hf : ∀ r0, (f r0).sem (QQ p) N a b) : (unlinkName n f : Pr α).sem (QQ p) N (a + 1) b := by
 unfold unlinkName
 repeat' (first | (exact sem_mono (hf _) (by omega) (by omega)) | (with_reducible refine sem_ite (fun _ => ?_) (fun _ => ?_)) | (with_reducible refine sem_num fun _ => ?_) | (with_reducible refine sem_nil ?_) | (with_reducible refine sem_lay ?_ ?_) | (with_reducible refine sem_setNum ?_ ?_) | (with_reducible refine sem_fileOf _ (fun _ => ?_)) | (with_reducible refine sem_wipe' _ _ ?_) | assumption | (exact noQ (by decide) (by decide)))
theorem sem_renameName (x y : Str) {f}  (hf : ∀ r0, (f r0).sem (QQ p) N a b) : (renameName x y f : Pr α).sem (QQ p) N (a + 2) b := by
 unfold renameName
 repeat' (first | (exact sem_mono (hf _) (by omega) (by omega)) | (with_reducible refine sem_ite (fun _ => ?_) (fun _ => ?_)) | (with_reducible refine sem_nil ?_) | (with_reducible refine sem_lay ?_ ?_) | (with_reducible refine sem_setNum ?_ ?_) | (with_reducible refine sem_fileOf _ (fun _ => ?_)) | (with_reducible refine sem_unlinkName _ (fun _ => ?_)) | (with_reducible refine sem_mono (sem_unlinkName (a := a) (b := b) _ (fun _ => ?_)) (by omega) (by omega)) | assumption | (exact noQ (by decide) (by decide)))
theorem sem_names  {f}  (hf : ∀ r0, (f r0).sem (QQ p) N a b) : (names  f : Pr α).sem (QQ p) N a b := by
 unfold names
 repeat' (first | (exact sem_under fun l => hf _) | (exact sem_mono (hf _) (by omega) (by omega)) | assumption | (exact noQ (by decide) (by decide)))
theorem sem_sizeOf (x : Int) {f}  (hf : ∀ r0, (f r0).sem (QQ p) N a b) : (sizeOf x f : Pr α).sem (QQ p) N a b := by
 unfold sizeOf
 repeat' (first | (exact sem_mono (hf _) (by omega) (by omega)) | (with_reducible refine sem_num fun _ => ?_) | assumption | (exact noQ (by decide) (by decide)))
theorem sem_block (x y : Int) {f}  (hf : ∀ r0, (f r0).sem (QQ p) N a b) : (block x y f : Pr α).sem (QQ p) N a b := by
 unfold block
 repeat' (first | (exact sem_look fun _ => hf _) | (exact sem_mono (hf _) (by omega) (by omega)) | (with_reducible refine sem_look fun _ => ?_) | assumption | (exact noQ (by decide) (by decide)))
theorem sem_makePipe  {f}  (hf : ∀ r0 r1, (f r0 r1).sem (QQ p) N a b) : (makePipe  f : Pr α).sem (QQ p) N (a + 2) b := by
 unfold makePipe
 repeat' (first | (exact sem_mono (hf _ _) (by omega) (by omega)) | (with_reducible refine sem_ite (fun _ => ?_) (fun _ => ?_)) | (with_reducible refine sem_num fun _ => ?_) | (with_reducible refine sem_setNum ?_ ?_) | (with_reducible refine sem_bump _ ?_ (fun _ => ?_)) | (with_reducible refine sem_mono (sem_bump (a := a) (b := b) _ ?_ (fun _ => ?_)) (by omega) (by omega)) | assumption | (exact noQ (by decide) (by decide)))
theorem sem_isPipe (x : Int) {f}  (hf : ∀ r0, (f r0).sem (QQ p) N a b) : (isPipe x f : Pr α).sem (QQ p) N a b := by
 unfold isPipe
 repeat' (first | (exact sem_mono (hf _) (by omega) (by omega)) | (with_reducible refine sem_num fun _ => ?_) | assumption | (exact noQ (by decide) (by decide)))
theorem sem_putPipe (x : Int) (t : Str) {f}  (hf : ∀ r0, (f r0).sem (QQ p) N a b) : (putPipe x t f : Pr α).sem (QQ p) N (a + 2) b := by
 unfold putPipe
 repeat' (first | (exact sem_mono (hf _) (by omega) (by omega)) | (with_reducible refine sem_ite (fun _ => ?_) (fun _ => ?_)) | (with_reducible refine sem_num fun _ => ?_) | (with_reducible refine sem_nil ?_) | (with_reducible refine sem_lay ?_ ?_) | (with_reducible refine sem_setNum ?_ ?_) | (with_reducible refine sem_isPipe _ (fun _ => ?_)) | assumption | (exact noQ (by decide) (by decide)))
theorem sem_takePipe (x : Int) {f}  (hf : ∀ r0 r1, (f r0 r1).sem (QQ p) N a b) : (takePipe x f : Pr α).sem (QQ p) N (a + 1) b := by
 unfold takePipe
 repeat' (first | (exact sem_mono (hf _ _) (by omega) (by omega)) | (with_reducible refine sem_ite (fun _ => ?_) (fun _ => ?_)) | (with_reducible refine sem_num fun _ => ?_) | (with_reducible refine sem_nil ?_) | (with_reducible refine sem_lay ?_ ?_) | (with_reducible refine sem_setNum ?_ ?_) | (with_reducible refine sem_message _ (fun _ => ?_)) | (with_reducible refine sem_isPipe _ (fun _ => ?_)) | assumption | (exact noQ (by decide) (by decide)))
theorem sem_state (x : Int) {f}  (hf : ∀ r0, (f r0).sem (QQ p) N a b) : (state x f : Pr α).sem (QQ p) N a b := by
 unfold state
 repeat' (first | (exact sem_mono (hf _) (by omega) (by omega)) | (with_reducible refine sem_num fun _ => ?_) | assumption | (exact noQ (by decide) (by decide)))
theorem sem_spawn (x : Int) {f}  (hf : ∀ r0 r1, (f r0 r1).sem (QQ p) N a b) : (spawn x f : Pr α).sem (QQ p) N (a + 3) b := by
 unfold spawn
 repeat' (first | (exact sem_mono (hf _ _) (by omega) (by omega)) | (with_reducible refine sem_ite (fun _ => ?_) (fun _ => ?_)) | (with_reducible refine sem_num fun _ => ?_) | (with_reducible refine sem_setNum ?_ ?_) | (with_reducible refine sem_bump _ ?_ (fun _ => ?_)) | (with_reducible refine sem_mono (sem_bump (a := a) (b := b) _ ?_ (fun _ => ?_)) (by omega) (by omega)) | assumption | (exact noQ (by decide) (by decide)))
theorem sem_endProc (x y : Int) {f}  (hf : ∀ r0, (f r0).sem (QQ p) N a b) : (endProc x y f : Pr α).sem (QQ p) N (a + 2) b := by
 unfold endProc
 repeat' (first | (exact sem_mono (hf _) (by omega) (by omega)) | (with_reducible refine sem_ite (fun _ => ?_) (fun _ => ?_)) | (with_reducible refine sem_setNum ?_ ?_) | (with_reducible refine sem_state _ (fun _ => ?_)) | assumption | (exact noQ (by decide) (by decide)))
theorem sem_reap (x y : Int) {f}  (hf : ∀ r0 r1, (f r0 r1).sem (QQ p) N a b) : (reap x y f : Pr α).sem (QQ p) N a b := by
 unfold reap
 repeat' (first | (exact sem_mono (hf _ _) (by omega) (by omega)) | (with_reducible refine sem_ite (fun _ => ?_) (fun _ => ?_)) | (with_reducible refine sem_num fun _ => ?_) | (with_reducible refine sem_wipe' _ _ ?_) | (with_reducible refine sem_state _ (fun _ => ?_)) | assumption | (exact noQ (by decide) (by decide)))
theorem sem_kids (x : Int) {f}  (hf : ∀ r0, (f r0).sem (QQ p) N a b) : (kids x f : Pr α).sem (QQ p) N a b := by
 unfold kids
 repeat' (first | (exact sem_under fun l => sem_kidsL hf l _) | (exact sem_mono (hf _) (by omega) (by omega)) | assumption | (exact noQ (by decide) (by decide)))
theorem sem_send (x y : Int) {f}  (hf : ∀ r0, (f r0).sem (QQ p) N a b) : (send x y f : Pr α).sem (QQ p) N (a + 2) b := by
 unfold send
 repeat' (first | (exact sem_mono (hf _) (by omega) (by omega)) | (with_reducible refine sem_ite (fun _ => ?_) (fun _ => ?_)) | (with_reducible refine sem_num fun _ => ?_) | (with_reducible refine sem_setNum ?_ ?_) | (with_reducible refine sem_state _ (fun _ => ?_)) | assumption | (exact noQ (by decide) (by decide)))
theorem sem_takeSignal (x : Int) {f}  (hf : ∀ r0 r1, (f r0 r1).sem (QQ p) N a b) : (takeSignal x f : Pr α).sem (QQ p) N (a + 1) b := by
 unfold takeSignal
 repeat' (first | (exact sem_mono (hf _ _) (by omega) (by omega)) | (with_reducible refine sem_ite (fun _ => ?_) (fun _ => ?_)) | (with_reducible refine sem_num fun _ => ?_) | (with_reducible refine sem_nil ?_) | (with_reducible refine sem_lay ?_ ?_) | (with_reducible refine sem_setNum ?_ ?_) | assumption | (exact noQ (by decide) (by decide)))
theorem sem_storePage (x y : Int) (t : Str) {f}  (hf : ∀ r0, (f r0).sem (QQ p) N a b) : (storePage x y t f : Pr α).sem (QQ p) N (a + 1) (b + 1) := by
 unfold storePage
 repeat' (first | (exact sem_mono (hf _) (by omega) (by omega)) | (with_reducible refine sem_ite (fun _ => ?_) (fun _ => ?_)) | (with_reducible refine sem_nil ?_) | (with_reducible refine sem_layQ ?_) | assumption | (exact noQ (by decide) (by decide)))
theorem sem_loadPage (x y : Int) {f}  (hf : ∀ r0 r1, (f r0 r1).sem (QQ p) N a b) : (loadPage x y f : Pr α).sem (QQ p) N a b := by
 unfold loadPage
 repeat' (first | (exact sem_mono (hf _ _) (by omega) (by omega)) | (with_reducible refine sem_ite (fun _ => ?_) (fun _ => ?_)) | (with_reducible refine sem_message _ (fun _ => ?_)) | assumption | (exact noQ (by decide) (by decide)))
theorem sem_setTimer (x y : Int) {f}  (hf : ∀ r0, (f r0).sem (QQ p) N a b) : (setTimer x y f : Pr α).sem (QQ p) N (a + 1) (b + 1) := by
 unfold setTimer
 repeat' (first | (exact sem_mono (hf _) (by omega) (by omega)) | (with_reducible refine sem_ite (fun _ => ?_) (fun _ => ?_)) | (refine sem_layQ ?_) | assumption | (exact noQ (by decide) (by decide)))
theorem sem_tickL {x : Int} {f : Int → Pr α} (hf : ∀ o, (f o).sem (QQ p) N a b) : ∀ (l : List Str) (o : Int), (tickL x l o f).sem (QQ p) N (a + 2 * l.length) b
 | [], o => hf o
 | k :: l, o => by
   unfold tickL
   refine sem_num fun n => ?_
   split
   · exact sem_mono (sem_tickL hf l _) (by simp only [List.length_cons]; omega) (Nat.le_refl _)
   · exact sem_nil (sem_send _ _ fun _ => sem_tickL hf l _)
theorem sem_tick (x : Int) {f}  (hf : ∀ r0 r1, (f r0 r1).sem (QQ p) N a b) : (tick x f : Pr α).sem (QQ p) N (a + (1 + 2 * N)) b := by
 unfold tick
 refine sem_ite (fun _ => sem_mono (hf _ _) (by omega) (by omega)) (fun _ => sem_num fun c => sem_ite (fun _ => sem_mono (hf _ _) (by omega) (by omega)) (fun _ => ?_))
 refine sem_mono (sem_setNum (a := a + 2 * N) (b := b) (noQ (c := 99) (by decide) (by decide)) ?_) (by omega) (Nat.le_refl _)
 exact sem_underQ (fun x hx => by unfold QQ; rw [hx]; rfl) fun l hl _ => sem_mono (sem_tickL (fun _ => hf _ _) l _) (by omega) (Nat.le_refl _)
theorem sem_forkPages (to_ : Int) (q : Pr α)  (hq : q.sem (QQ p) N a b) : (forkPages p to_ q : Pr α).sem (QQ p) N (a + (N)) b := by
 unfold forkPages
 repeat' (first | (exact sem_underQ (fun x hx => by unfold QQ; rw [hx, Bool.or_true]) fun l hl hx => sem_mono (sem_forkL hq l hx) (by omega) (Nat.le_refl _)) | (exact sem_mono hq (by omega) (by omega)) | assumption | (exact noQ (by decide) (by decide)))
theorem sem_dropPages (x : Int) (q : Pr α)  (hq : q.sem (QQ p) N a b) : (dropPages x q : Pr α).sem (QQ p) N a b := by
 unfold dropPages
 repeat' (first | (exact sem_mono hq (by omega) (by omega)) | (with_reducible refine sem_wipe' _ _ ?_) | assumption | (exact noQ (by decide) (by decide)))
theorem sem_putOut (x : Str) {f}  (hf : ∀ r0, (f r0).sem (QQ p) N a b) : (putOut x f : Pr α).sem (QQ p) N (a + 2) b := by
 unfold putOut
 repeat' (first | (exact sem_mono (hf _) (by omega) (by omega)) | (with_reducible refine sem_ite (fun _ => ?_) (fun _ => ?_)) | (with_reducible refine sem_num fun _ => ?_) | (with_reducible refine sem_nil ?_) | (with_reducible refine sem_lay ?_ ?_) | (with_reducible refine sem_setNum ?_ ?_) | assumption | (exact noQ (by decide) (by decide)))
theorem sem_readFile (x y z : Int) {f}  (hf : ∀ r0, (f r0).sem (QQ p) N a b) : (readFile x y z f : Pr α).sem (QQ p) N a b := by
 unfold readFile
 repeat' (first | (exact sem_readL hf _ _ _) | (exact sem_mono (hf _) (by omega) (by omega)) | (with_reducible refine sem_ite (fun _ => ?_) (fun _ => ?_)) | (with_reducible refine sem_sizeOf _ (fun _ => ?_)) | assumption | (exact noQ (by decide) (by decide)))
theorem sem_writeFile (x y : Int) (t : Str) {f}  (hf : ∀ r0, (f r0).sem (QQ p) N a b) : (writeFile x y t f : Pr α).sem (QQ p) N (a + 131) b := by
 unfold writeFile
 repeat' (first | (exact sem_mono (hf _) (by omega) (by omega)) | (with_reducible refine sem_ite (fun _ => ?_) (fun _ => ?_)) | (with_reducible refine sem_setNum ?_ ?_) | (refine sem_mono (sem_writeL (a := a + 1) (b := b) ?_ _ _) (by omega) (by omega)) | (with_reducible refine sem_sizeOf _ (fun _ => ?_)) | assumption | (exact noQ (by decide) (by decide)))
theorem sem_cutFile (x y : Int) {f}  (hf : ∀ r0, (f r0).sem (QQ p) N a b) : (cutFile x y f : Pr α).sem (QQ p) N (a + 2) b := by
 unfold cutFile
 repeat' (first | (exact sem_mono (hf _) (by omega) (by omega)) | (with_reducible refine sem_ite (fun _ => ?_) (fun _ => ?_)) | (with_reducible refine sem_nil ?_) | (with_reducible refine sem_lay ?_ ?_) | (with_reducible refine sem_setNum ?_ ?_) | (refine sem_cutL ?_ _ _) | (with_reducible refine sem_sizeOf _ (fun _ => ?_)) | (with_reducible refine sem_block _ _ (fun _ => ?_)) | assumption | (exact noQ (by decide) (by decide)))
theorem sem_doFile (c : CL) {f}  (hf : ∀ r0, (f r0).sem (QQ p) N a b) : (doFile c f : Pr α).sem (QQ p) N (a + 131) b := by
 unfold doFile
 repeat' (first | (exact sem_mono (hf _) (by omega) (by omega)) | (with_reducible refine sem_ite (fun _ => ?_) (fun _ => ?_)) | (with_reducible refine sem_fileOf _ (fun _ => ?_)) | (with_reducible refine sem_readFile _ _ _ (fun _ => ?_)) | (with_reducible refine sem_writeFile _ _ _ (fun _ => ?_)) | (with_reducible refine sem_mono (sem_writeFile (a := a) (b := b) _ _ _ (fun _ => ?_)) (by omega) (by omega)) | (with_reducible refine sem_cutFile _ _ (fun _ => ?_)) | (with_reducible refine sem_mono (sem_cutFile (a := a) (b := b) _ _ (fun _ => ?_)) (by omega) (by omega)) | assumption | (exact noQ (by decide) (by decide)))
theorem sem_doProc (c : CL) {f}  (hf : ∀ r0, (f r0).sem (QQ p) N a b) : (doProc p c f : Pr α).sem (QQ p) N (a + (3 + N)) b := by
 unfold doProc
 refine sem_ite (fun _ => ?_) (fun _ => sem_ite (fun _ => ?_) (fun _ => sem_ite (fun _ => ?_) (fun _ => ?_)))
 · exact sem_mono (sem_spawn (a := a + N) (b := b) _ fun _ _ => sem_ite (fun _ => sem_forkPages _ _ (hf _)) (fun _ => sem_mono (hf _) (by omega) (by omega))) (by omega) (by omega)
 · exact sem_mono (sem_endProc (a := a) (b := b) _ _ fun _ => sem_ite (fun _ => sem_dropPages _ _ (hf _)) (fun _ => hf _)) (by omega) (by omega)
 · exact sem_mono (sem_reap _ _ fun _ _ => hf _) (by omega) (by omega)
 · exact sem_mono (sem_kids _ fun _ => hf _) (by omega) (by omega)
theorem sem_doKind (c : CL) {f}  (hf : ∀ r0, (f r0).sem (QQ p) N a b) : (doKind p c f : Pr α).sem (QQ p) N (a + (140 + 2 * N)) (b + 1) := by
 unfold doKind
 refine sem_ite (fun _ => sem_mono (sem_makeName _ fun _ _ => hf _) (by omega) (by omega)) (fun _ => ?_)
 refine sem_ite (fun _ => sem_mono (sem_linkName _ _ fun _ => hf _) (by omega) (by omega)) (fun _ => ?_)
 refine sem_ite (fun _ => sem_mono (sem_unlinkName _ fun _ => hf _) (by omega) (by omega)) (fun _ => ?_)
 refine sem_ite (fun _ => sem_mono (sem_renameName _ _ fun _ => hf _) (by omega) (by omega)) (fun _ => ?_)
 refine sem_ite (fun _ => sem_mono (sem_names fun _ => hf _) (by omega) (by omega)) (fun _ => ?_)
 refine sem_ite (fun _ => sem_mono (sem_doFile c hf) (by omega) (by omega)) (fun _ => ?_)
 refine sem_ite (fun _ => sem_mono (sem_doFile c hf) (by omega) (by omega)) (fun _ => ?_)
 refine sem_ite (fun _ => sem_mono (sem_doFile c hf) (by omega) (by omega)) (fun _ => ?_)
 refine sem_ite (fun _ => sem_mono (sem_makePipe fun _ _ => hf _) (by omega) (by omega)) (fun _ => ?_)
 refine sem_ite (fun _ => sem_mono (sem_putPipe _ _ fun _ => hf _) (by omega) (by omega)) (fun _ => ?_)
 refine sem_ite (fun _ => sem_mono (sem_takePipe _ fun _ _ => hf _) (by omega) (by omega)) (fun _ => ?_)
 refine sem_ite (fun _ => sem_mono (sem_send _ _ fun _ => hf _) (by omega) (by omega)) (fun _ => ?_)
 refine sem_ite (fun _ => sem_mono (sem_takeSignal _ fun _ _ => hf _) (by omega) (by omega)) (fun _ => ?_)
 refine sem_ite (fun _ => sem_mono (sem_setTimer _ _ fun _ => hf _) (by omega) (by omega)) (fun _ => ?_)
 refine sem_ite (fun _ => sem_mono (sem_tick _ fun _ _ => hf _) (by omega) (by omega)) (fun _ => ?_)
 refine sem_ite (fun _ => sem_mono (sem_storePage _ _ _ fun _ => hf _) (by omega) (by omega)) (fun _ => ?_)
 refine sem_ite (fun _ => sem_mono (sem_loadPage _ _ fun _ _ => hf _) (by omega) (by omega)) (fun _ => ?_)
 refine sem_ite (fun _ => sem_mono (sem_putOut _ fun _ => hf _) (by omega) (by omega)) (fun _ => ?_)
 exact sem_mono (sem_doProc c hf) (by omega) (by omega)
theorem sem_doCall (c : CL) : (doCall p c).sem (QQ p) N (140 + 2 * N) 1 := by
 unfold doCall
 refine sem_state _ fun s => ?_
 split
 · split
   · exact sem_mono (sem_doKind (a := 0) (b := 0) c fun _ => sem_ret) (by omega) (by omega)
   · exact sem_ret
 · exact sem_ret
end
end Pr
theorem callTr_grow (s : List Cell) (p : Int) (c : CL) : (callTr s p c).s.length ≤ s.length + (2 * cnt (Pr.QQ p) s + 142) ∧ cnt (Pr.QQ p) (callTr s p c).s ≤ cnt (Pr.QQ p) s + 1 := by
 have := Pr.sem_doCall (N := cnt (Pr.QQ p) s + 1) (p := p) c s (Nat.le_refl _)
 unfold callTr
 omega
theorem steps_grow {p : Int} : ∀ (l : List SP) (s : List Cell), (∀ x ∈ l, x.proc = p) → cnt (Pr.QQ p) (stepsTr s l).s ≤ cnt (Pr.QQ p) s + l.length ∧ (stepsTr s l).s.length ≤ s.length + l.length * (2 * cnt (Pr.QQ p) s + 2 * l.length + 142)
 | [], s, _ => ⟨Nat.le_add_right _ _, Nat.le_add_right _ _⟩
 | x :: l, s, h => by
   have hx := h x (List.mem_cons_self ..)
   obtain ⟨h1, h2⟩ := callTr_grow s x.proc x.call
   obtain ⟨g1, g2⟩ := steps_grow l (callTr s x.proc x.call).s fun y hy => h y (List.mem_cons_of_mem _ hy)
   rw [hx] at h1 h2 g1 g2
   have e : (stepsTr s (x :: l)).s = (stepsTr (callTr s p x.call).s l).s := by rw [stepsTr, hx]
   rw [e, List.length_cons, Nat.succ_mul]
   have h3 : l.length * (2 * cnt (Pr.QQ p) (callTr s p x.call).s + 2 * l.length + 142) ≤ l.length * (2 * cnt (Pr.QQ p) s + 2 * (l.length + 1) + 142) := Nat.mul_le_mul_left _ (by omega)
   omega
/-- The stores on the way through steps are bounded so. -/
def runB (s : List Cell) (l : List SP) (G : Nat → Nat) : Prop := ∀ j, j ≤ l.length → (stepsTr s (l.take j)).s.length ≤ G j
theorem runB.zero {s : List Cell} {l : List SP} {G : Nat → Nat} (h : runB s l G) : s.length ≤ G 0 := h 0 (Nat.zero_le _)
theorem run_gro {s : List Cell} {n : Nat} {p : Int} (h : s.length ≤ n) {l : List SP} (hp : ∀ x ∈ l, x.proc = p) : runB s l (gro n) := fun j hj => by
 obtain ⟨_, h2⟩ := steps_grow (l.take j) s fun x hx => hp x (List.mem_of_mem_take hx)
 rw [List.length_take, Nat.min_eq_left hj] at h2
 have h3 := cnt_le (Q := Pr.QQ p) (s := s)
 have h4 : j * (2 * cnt (Pr.QQ p) s + 2 * j + 142) ≤ j * (2 * n + 2 * j + 142) := Nat.mul_le_mul_left _ (by omega)
 unfold gro
 omega
theorem run_gro1 {s : List Cell} {n : Nat} (h : s.length ≤ n) (t : TD) : runB s (stepsOf t) (gro n) := run_gro (p := t.proc) h fun x hx => by
 obtain ⟨c, _, rfl⟩ := List.mem_map.1 hx; rfl
theorem MS.ok.tight {m : MS} {A B C : Nat} (k : m.ok A B) (h : m.s.length ≤ C) : m.ok C B := ⟨h, k.2.1, k.2.2.1, k.2.2.2⟩
theorem run_store {s : List Cell} {l : List SP} {j : Nat} {m m1 : MS} {a : AN} (hj : j < l.length) (hS : m.s = (stepsTr s (l.take j)).s) (e : m.doCall (l.getD j p0_).proc (l.getD j p0_).call = (m1, a)) : m1.s = (stepsTr s (l.take (j + 1))).s := by
 rw [take_at (getD_some (d := p0_) hj), stepsTr_snoc]
 have h := doCall_s m (l.getD j p0_).proc (l.getD j p0_).call
 rw [e, hS] at h
 exact h
theorem run_tight {s : List Cell} {l : List SP} {G : Nat → Nat} {j : Nat} {m m1 : MS} {a : AN} {A B : Nat} (hG : runB s l G) (hj : j < l.length) (hS : m.s = (stepsTr s (l.take j)).s) (e : m.doCall (l.getD j p0_).proc (l.getD j p0_).call = (m1, a)) (k : m1.ok A B) : m1.ok (G (j + 1)) B :=
 k.tight (by rw [run_store hj hS e]; exact hG (j + 1) hj)
end Go.Proofs.YthlfmbbaomdciaaGreatDoor
set_option maxHeartbeats 4000000
set_option maxRecDepth 4000
namespace Go.Proofs.YthlfmbbaomdciaaGreatDoor
open Go Go.RowKit
attribute [local irreducible] JL JC JQ JO LO PO JA JX Ct
theorem N_run (p : Nat) (x : MA) (m : MS) {S T : Nat} (hk : m.ok S T) (hS : S ≤ 40000000) (hT : T ≤ 990000000) (stepsa : Option Addr) (stepsc : Nat) (steps : List SP) (hsteps : steps.length ≤ 28000000) (hP : okSteps steps) (G : Nat → Nat) (hG : runB m.s steps G) (hGS : ∀ j, j ≤ steps.length → G j ≤ 28000000) (hGT : sumT G T steps.length ≤ 1000000000) :
   Ct Tryz.prog 104 [.pointer (some ⟨p, 0, none⟩), .slice stepsa steps.length stepsc] (mb p x m :: mr x m) (fun w => (Sees w (.slice stepsa steps.length stepsc) 7 steps.length (steps.flatMap encP) ∧ ∀ i_, (Value.slice stepsa steps.length stepsc).ownBlock = some i_ → i_ ∉ idsOf (mb p x m :: mr x m)) ∧ HexOk w) (fun v A' => ∃ (x' : MA) (m' : MS) (oa : Option Addr) (oc : Nat) (o : List AN), m.runA steps [] = (m', o) ∧ m'.ok (G steps.length) (sumT G T steps.length) ∧ o.length = steps.length ∧ v = .slice oa o.length oc ∧ A' = mb p x' m' :: mr x' m' ++ [Res.row (.slice oa o.length oc) 39 3 o.length (o.flatMap encA)]) := by
 refine Ct.introL Tryz.func104 rfl Tryz.ntmps104 (lb rfl) fun w0 hpre hlow => ?_
 have hs_stepsa : Sees w0 _ _ _ _ := hpre.1.1
 have hgT0 : sumT G T 0 = T := rfl
 have hk0 := hk.tight hG.zero
 have hgj0 := hGS 0 (Nat.zero_le _)
 refine go ?_
 refine JC.nilRow 39 3 ?_
 refine go ?_
 refine jL (fun k_ e_ L_ => ∃ j_ : Nat, ∃ x1 : MA, ∃ mm : MS, ∃ o_a : Option Addr, ∃ o_c : Nat, ∃ o_ : List AN, (mm.ok (G j_) (sumT G T j_)) ∧ (j_ ≤ steps.length) ∧ (o_.length = j_) ∧ (mm.s = (stepsTr m.s (steps.take j_)).s) ∧ (MS.runA mm (steps.drop j_) o_ = m.runA steps []) ∧ EL e_ [(0, pv p), (4, .slice none 0 0), (5, .slice o_a o_.length o_c), (8, .slice stepsa steps.length stepsc), (9, nv steps.length), (10, nv j_)] ∧ L_ = [Res.row (.slice o_a o_.length o_c) 39 3 o_.length (o_.flatMap encA), mb p x1 mm, rC x1.a0 x1.c0 mm.s, rS x1.a1 x1.c1 mm.r, rS x1.a2 x1.c2 mm.w] ∧ k_ = steps.length + 1 - j_) _ ⟨0, x, m, none, 0, ([] : List AN), (hk0.mono (by omega) (by omega)), (by omega), (by rfl), rfl, rfl, EL.go, rfl, rfl⟩ ?_
 rintro _ _ _ ⟨j_, x1, mm, o_a, o_c, o_, hkmm, hj, hol, hS, hR, ⟨_, rfl⟩, rfl, rfl⟩
 refine go ?_
 by_cases h_1 : ((j_ : Nat) : Int) < ((steps.length : Nat) : Int)
 · have hlt : j_ < steps.length := by omega
   have hpj := hP j_ hlt
   have hpq := hpj.2
   have hgj := hGS j_ (by omega)
   have hgj1 := hGS (j_ + 1) (by omega)
   have hgT := sumT_le G T (show j_ + 1 ≤ steps.length by omega)
   have hg2 := sumT_step G T j_
   refine go ?_
   obtain ⟨hr_2, hr_2b, -⟩ := sees_some hs_stepsa (by omega)
   refine go ?_
   refine jU (jj (vs := [iv (steps.getD j_ p0_).proc, iv (steps.getD j_ p0_).call.kind, str (steps.getD j_ p0_).call.name, str (steps.getD j_ p0_).call.to_, iv (steps.getD j_ p0_).call.a, iv (steps.getD j_ p0_).call.b, str (steps.getD j_ p0_).call.text]) hs_stepsa (hpre.1.2) rfl Tryz.isAgg45 ks (flat_take encP_len p0_ steps j_ (by omega)) rfl (by decide)) ?_
   refine jG [iv 0, iv 0, str [], str [], iv 0, iv 0, str []] fun b_3 => ?_
   refine jD 0 [iv (steps.getD j_ p0_).proc, iv (steps.getD j_ p0_).call.kind, str (steps.getD j_ p0_).call.name, str (steps.getD j_ p0_).call.to_, iv (steps.getD j_ p0_).call.a, iv (steps.getD j_ p0_).call.b, str (steps.getD j_ p0_).call.text] ?_
   refine go ?_
   refine jA [2, 2, 2, 2] (N_do p x1 mm hkmm (by omega) (by omega) (steps.getD j_ p0_).proc (steps.getD j_ p0_).call (by omega) hpj.1) (hpre := fun w hw => hw.hex hlow hpre.2) ?_
   rintro _ _ ⟨x_6, m_7, A_8, e_4, k_5, f_9, rfl, rfl⟩
   refine jF rfl (jR (ps := [(0, .agg #[iv A_8.code, iv A_8.n, str A_8.text])]) (cur := #[iv A_8.code, iv A_8.n, str A_8.text]) ke kY Tryz.zeroValue39 rfl (by kernel_rfl) (by decide) (by decide)) ?_
   rintro _ _ ⟨a_10, rfl, rfl⟩
   refine jF rfl (jX 6 (q := 1) (news := ([A_8] : List AN).flatMap encA) (n' := (o_ ++ ([A_8] : List AN)).length) (cs' := (o_ ++ ([A_8] : List AN)).flatMap encA) rfl ke ke Tryz.typeInfo39 rfl (by' := 32) rfl rfl rfl rfl rfl (fun w hw => Src.sees (hw.see (i := 0) rfl) (oneA _)) (by (try simp only [LE]); omega) (by (try simp only [LE]); omega) (by simp only [List.length_append, List.length_take, List.length_drop, List.length_cons, List.length_nil] <;> first | rfl | omega) (by simp only [List.flatMap_append])) ?_
   rintro _ _ ⟨a_11, c_12, rfl, rfl⟩
   refine go ?_
   have hkt := run_tight hG hlt hS e_4 k_5
   refine go ?_
   exact jP [6, 1, 1, 1, 1] ⟨(j_ + 1), x_6, m_7, a_11, c_12, (o_ ++ ([A_8] : List AN)), (hkt.mono (by omega) (by omega)), (by omega), (by simp only [List.length_append, List.length_cons, List.length_nil]; omega), (run_store hlt hS e_4), (by rw [runA_step hlt e_4] at hR; exact hR), EL.go, rfl, rfl⟩
 refine go ?_
 refine ju (pick_perm [1, 1, 1, 1, 0] (A := [mb p x1 mm, rC x1.a0 x1.c0 mm.s, rS x1.a1 x1.c1 mm.r, rS x1.a2 x1.c2 mm.w, Res.row (.slice o_a o_.length o_c) 39 3 o_.length (o_.flatMap encA)]) (F := []) rfl).symm ?_
 refine jE (.inl rfl) rfl (jC (v := .slice o_a o_.length o_c) rfl) (tS 5 _) ?_
 obtain rfl : j_ = steps.length := by omega
 rw [List.drop_length, MS.runA] at hR
 exact ⟨x1, mm, o_a, o_c, o_, hR.symm, hkmm, hol, rfl, rfl⟩

theorem I_serialRun (sa : Option Addr) (sc : Nat) (s : List Cell) (stepsa : Option Addr) (stepsc : Nat) (steps : List SP) (hs : s.length ≤ 28000000) (hsteps : steps.length ≤ 28000000) {n : Nat} (hO : okC' n 1048576 s) (hn : n ≤ 40000000) (hP : okSteps steps) (G : Nat → Nat) (hG : runB s steps G) (hGS : ∀ j, j ≤ steps.length → G j ≤ 28000000) (hGT : sumT G 0 steps.length ≤ 1000000000) :
   Ct Tryz.prog 99 [.slice sa s.length sc, .slice stepsa steps.length stepsc] ([]) (fun w => Sees w (.slice sa s.length sc) 2 s.length (s.flatMap encC) ∧ Sees w (.slice stepsa steps.length stepsc) 7 steps.length (steps.flatMap encP) ∧ HexOk w) (fun v A' => ∃ (x' : MA) (m' : MS) (oa : Option Addr) (oc : Nat) (o : List AN), (⟨s, [], []⟩ : MS).runA steps [] = (m', o) ∧ m'.ok (G steps.length) (sumT G 0 steps.length) ∧ o.length = steps.length ∧ v = .tuple #[.slice x'.a0 m'.s.length x'.c0, .slice oa o.length oc] ∧ A' = [rC x'.a0 x'.c0 m'.s, Res.row (.slice oa o.length oc) 39 3 o.length (o.flatMap encA)]) := by
 refine Ct.introL Tryz.func99 rfl Tryz.ntmps99 (lb rfl) fun w0 hpre hlow => ?_
 have hs_sa : Sees w0 _ _ _ _ := hpre.1
 have hs_stepsa : Sees w0 _ _ _ _ := hpre.2.1
 refine go ?_
 refine jA [] (I_machOfB sa sc s (by first | omega | simp) hO) (hpre := fun w hw => hw.seeOut_ hs_sa nM) ?_
 rintro _ _ ⟨x_1, m_2, e_4, k_3, rfl, rfl⟩
 refine jG zC fun b_5 => ?_
 refine jD 0 (mc x_1 m_2) ?_
 refine go ?_
 refine jA [0, 0, 0, 0] (N_run b_5 x_1 m_2 k_3 (by omega) (by omega) stepsa stepsc steps (by omega) hP G (by rw [← e_4]; exact hG) hGS hGT) (hpre := fun w hw => ⟨⟨hw.seeOut_ hs_stepsa nM, hw.apart hs_stepsa nM (by simp)⟩, hw.hex hlow hpre.2.2⟩) ?_
 rintro _ _ ⟨x_6, m_7, a_8, c_9, o_10, e_11, k_12, hl_13, rfl, rfl⟩
 refine go ?_
 refine ju (pick_perm [1, 3] (A := [rC x_6.a0 x_6.c0 m_7.s, Res.row (.slice a_8 o_10.length c_9) 39 3 o_10.length (o_10.flatMap encA)]) (F := [mb b_5 x_6 m_7, rS x_6.a1 x_6.c1 m_7.r, rS x_6.a2 x_6.c2 m_7.w]) rfl).symm ?_
 refine ji (.inl rfl) rfl (jC (v := .slice x_6.a0 m_7.s.length x_6.c0) rfl) (jC (v := .slice a_8 o_10.length c_9) rfl) (tS 2 _) ?_
 subst e_4
 exact ⟨x_6, m_7, a_8, c_9, o_10, e_11, k_12, hl_13, rfl, rfl⟩

theorem D_run15 (sa : Option Addr) (sc : Nat) (s : List Cell) (stepsa : Option Addr) (stepsc : Nat) (steps : List SP) (hs : s.length ≤ 28000000) (hsteps : steps.length ≤ 28000000) {n : Nat} (hO0 : okC' n 1048576 s) (hn : n ≤ 40000000) (hP : okSteps steps) (G : Nat → Nat) (hG : runB s steps G) (hGS : ∀ j, j ≤ steps.length → G j ≤ 28000000) (hGT : sumT G 0 steps.length ≤ 1000000000) :
   Ct Tryz.prog 96 [.slice sa s.length sc, .slice stepsa steps.length stepsc] ([]) (fun w => Sees w (.slice sa s.length sc) 2 s.length (s.flatMap encC) ∧ Sees w (.slice stepsa steps.length stepsc) 7 steps.length (steps.flatMap encP)) (fun v A' => ∃ (sa : Option Addr) (sc : Nat) (s' : List Cell) (oa : Option Addr) (oc : Nat) (o : List AN) (ra : Option Addr) (rc : Nat) (r : List Str) (wa : Option Addr) (wc : Nat) (w : List Str), runL s [] [] [] steps = (s', o, r, w) ∧ okC' (G steps.length) 1048576 s' ∧ o.length = steps.length ∧ (r.length ≤ sumT G 0 steps.length ∧ w.length ≤ sumT G 0 steps.length) ∧ v = .tuple #[.slice sa s'.length sc, .slice oa o.length oc, .agg #[.slice ra r.length rc, .slice wa w.length wc]] ∧ A' = [rC sa sc s', Res.row (.slice oa o.length oc) 39 3 o.length (o.flatMap encA), rS ra rc r, rS wa wc w]) := by
 have hgT0 : sumT G 0 0 = 0 := rfl
 have hgj0 := hGS 0 (Nat.zero_le _)
 refine Ct.intro Tryz.func96 rfl Tryz.ntmps96 (lb rfl) fun w0 hpre => ?_
 have hs_sa : Sees w0 _ _ _ _ := hpre.1
 have hs_stepsa : Sees w0 _ _ _ _ := hpre.2
 refine go ?_
 refine jG [.slice none 0 0, .slice none 0 0] fun b_1 => ?_
 refine go ?_
 refine jF rfl (jR (ps := []) (cur := #[]) kK kP kq rfl (by kernel_rfl) (by decide) (by decide)) ?_
 rintro _ _ ⟨a_2, rfl, rfl⟩
 refine go ?_
 refine jF rfl (jX 0 (q := s.length) (news := s.flatMap encC) (n' := s.length) (cs' := s.flatMap encC) rfl kK kK ko rfl (by' := 32) rfl rfl rfl rfl rfl (fun w hw => Src.sees (hw.seeOut_ hs_sa nM) (oneC _)) (by (try simp only [LE]); omega) (by (try simp only [LE]); omega) (by (try simp only [List.length_take, List.length_drop]); first | rfl | omega) rfl) ?_
 rintro _ _ ⟨a_3, c_4, rfl, rfl⟩
 refine go ?_
 refine jF rfl (jR (ps := []) (cur := #[]) ke kY Tryz.zeroValue39 rfl (by kernel_rfl) (by decide) (by decide)) ?_
 rintro _ _ ⟨a_5, rfl, rfl⟩
 refine go ?_
 refine jK (je (ps := []) (cs := [.slice none 0 0, .slice none 0 0]) rfl (by kernel_rfl)) ?_
 refine jG [.slice none 0 0, .slice none 0 0] fun b_6 => ?_
 refine jD 0 [.slice none 0 0, .slice none 0 0] ?_
 refine go ?_
 refine JC.nilRow 9 1 <| JC.nilRow 9 1 ?_
 refine go ?_
 refine jL (fun k_ e_ L_ => ∃ j_ : Nat, ∃ s_a : Option Addr, ∃ s_c : Nat, ∃ s_ : List Cell, ∃ o_a : Option Addr, ∃ o_c : Nat, ∃ o_ : List AN, ∃ r_a : Option Addr, ∃ r_c : Nat, ∃ r_ : List Str, ∃ w_a : Option Addr, ∃ w_c : Nat, ∃ w_ : List Str, (j_ ≤ steps.length) ∧ (okC' (G j_) 1048576 s_) ∧ (s_ = (stepsTr s (steps.take j_)).s) ∧ (o_.length = j_) ∧ (r_.length ≤ sumT G 0 j_) ∧ (w_.length ≤ sumT G 0 j_) ∧ (runL s_ o_ r_ w_ (steps.drop j_) = runL s [] [] [] steps) ∧ EL e_ [(0, .slice s_a s_.length s_c), (1, .slice stepsa steps.length stepsc), (4, .slice none 0 0), (5, .slice none 0 0), (6, .pointer (some ⟨b_1, 0, none⟩)), (7, .slice o_a o_.length o_c), (8, .pointer (some ⟨b_6, 0, none⟩)), (9, nv j_)] ∧ L_ = [rS w_a w_c w_, rS r_a r_c r_, bk b_6 32 [.slice r_a r_.length r_c, .slice w_a w_.length w_c], Res.row (.slice o_a o_.length o_c) 39 3 o_.length (o_.flatMap encA), rC s_a s_c s_, bk b_1 32 [.slice none 0 0, .slice none 0 0]] ∧ k_ = steps.length + 1 - j_) _ ⟨0, a_3, c_4, s, a_5, 0, ([] : List AN), none, 0, ([] : List Str), none, 0, ([] : List Str), (by omega), ⟨hG.zero, hO0.2⟩, rfl, (by rfl), (Nat.zero_le _), (Nat.zero_le _), rfl, EL.go, rfl, rfl⟩ ?_
 rintro _ _ _ ⟨j_, s_a, s_c, s_, o_a, o_c, o_, r_a, r_c, r_, w_a, w_c, w_, hj, hO, hS, hol, hr, hw_, hR, ⟨_, rfl⟩, rfl, rfl⟩
 refine go ?_
 by_cases h_7 : ((j_ : Nat) : Int) < ((steps.length : Nat) : Int)
 · have hlt : j_ < steps.length := by omega
   have hpj := hP j_ hlt
   have hpq := hpj.2
   have hgj := hGS j_ (by omega)
   have hgj1 := hGS (j_ + 1) (by omega)
   have hgT := sumT_le G 0 (show j_ + 1 ≤ steps.length by omega)
   have hg2 := sumT_step G 0 j_
   refine JC.condT (cB (dT h_7)) <| JC.skip <| jT <| jc <| JC.block <| jc ?_
   refine JC.cut (fun e_ L_ => ∃ x_9 : MA, ∃ m_10 : MS, ∃ A_11 : AN, ∃ b_15 : Nat, ∃ b_16 : Nat, ((⟨s_, [], []⟩ : MS).doCall (steps.getD j_ p0_).proc (steps.getD j_ p0_).call = (m_10, A_11)) ∧ (m_10.ok (3 * (G j_) + 20) (7 * (G j_) + 200)) ∧ ((0 ≤ A_11.code ∧ A_11.code ≤ 9) ∧ (-1 ≤ A_11.n ∧ A_11.n ≤ 1000000000) ∧ A_11.text.length ≤ 30000000000000) ∧ EL e_ [(0, .slice s_a s_.length s_c), (1, .slice stepsa steps.length stepsc), (4, .slice none 0 0), (5, .slice none 0 0), (6, .pointer (some ⟨b_1, 0, none⟩)), (7, .slice o_a o_.length o_c), (8, .pointer (some ⟨b_6, 0, none⟩)), (9, nv j_), (10, .slice x_9.a0 m_10.s.length x_9.c0), (11, .pointer (some ⟨b_15, 0, none⟩)), (12, .pointer (some ⟨b_16, 0, none⟩))] ∧ L_ = [bk b_16 32 [.slice x_9.a1 m_10.r.length x_9.c1, .slice x_9.a2 m_10.w.length x_9.c2], bk b_15 39 [iv A_11.code, iv A_11.n, str A_11.text], rC x_9.a0 x_9.c0 m_10.s, rS x_9.a1 x_9.c1 m_10.r, rS x_9.a2 x_9.c2 m_10.w, rS w_a w_c w_, rS r_a r_c r_, bk b_6 32 [.slice r_a r_.length r_c, .slice w_a w_.length w_c], Res.row (.slice o_a o_.length o_c) 39 3 o_.length (o_.flatMap encA), rC s_a s_c s_, bk b_1 32 [.slice none 0 0, .slice none 0 0]]) ?_ ?_
   · refine jH [] 18 ?_
     refine go ?_
     obtain ⟨hr_17, hr_17b, -⟩ := sees_some hs_stepsa (by omega)
     refine go ?_
     refine jk 5 rfl (jY (v := iv (steps.getD j_ p0_).proc) hs_stepsa nM rfl kR (flat_at encP_len p0_ steps j_ 0 (by omega) (by decide))) ?_
     refine go ?_
     refine jk 10 rfl (jj (vs := [iv (steps.getD j_ p0_).call.kind, str (steps.getD j_ p0_).call.name, str (steps.getD j_ p0_).call.to_, iv (steps.getD j_ p0_).call.a, iv (steps.getD j_ p0_).call.b, str (steps.getD j_ p0_).call.text]) hs_stepsa nM rfl ki kX (flat_part encP_len p0_ steps j_ 1 6 (by omega) (by decide)) rfl (by decide)) ?_
     repeat' first
       | refine kD (i := 11) (j := 16) (k := 17) (by decide +kernel) ?_ ?_ ?_
       | refine jZ (i := 16) (j := 17) (by decide +kernel) ?_ ?_
       | refine jB (i := 17) ?_ (by decide +kernel)
       | refine jB (i := 19) ?_ (by decide +kernel)
       | refine jB (i := 20) ?_ (by decide +kernel)
       | refine jB (i := 16) ?_ (by decide +kernel)
       | refine jZ (i := 11) (j := 17) (by decide +kernel) ?_ ?_
       | refine jB (i := 11) ?_ (by decide +kernel)
       | refine jZ (i := 11) (j := 16) (by decide +kernel) ?_ ?_
       | (refine jI (i := 11) [] (D_callOn s_a s_c s_ (steps.getD j_ p0_).proc (steps.getD j_ p0_).call (by have hl_ := (hO).1; omega) (by omega) hpj.1 hO (by omega)) (hpre := fun w hw => hw.see (i := 4) rfl) ?_; rintro _ _ ⟨x_26, m_27, A_28, e_29, k_30, f_31, rfl, rfl⟩; refine go ?_)
       | (refine JX.al (i := 16) [iv 0, iv 0, str []] fun b_34 => ?_; refine go ?_)
       | (refine JX.al (i := 17) [.slice none 0 0, .slice none 0 0] fun b_36 => ?_; refine go ?_)
       | (refine jf (i := 19) 1 [iv A_28.code, iv A_28.n, str A_28.text] ?_)
       | (refine jS (i := 20) 0 [.slice x_26.a1 m_27.r.length x_26.c1, .slice x_26.a2 m_27.w.length x_26.c2] ?_)
       | (refine jf (i := 19) 0 [iv A_28.code, iv A_28.n, str A_28.text] ?_)
       | (refine jS (i := 20) 1 [.slice x_26.a1 m_27.r.length x_26.c1, .slice x_26.a2 m_27.w.length x_26.c2] ?_)
       | (refine jI (i := 11) [] (D_callOn s_a s_c s_ (steps.getD j_ p0_).proc (steps.getD j_ p0_).call (by have hl_ := (hO).1; omega) (by omega) hpj.1 hO (by omega)) (hpre := fun w hw => hw.see (i := 5) rfl) ?_; rintro _ _ ⟨x_26, m_27, A_28, e_29, k_30, f_31, rfl, rfl⟩; refine go ?_)
       | (refine jf (i := 19) 4 [iv A_28.code, iv A_28.n, str A_28.text] ?_)
       | (refine jI (i := 11) [] (D_callOn s_a s_c s_ (steps.getD j_ p0_).proc (steps.getD j_ p0_).call (by have hl_ := (hO).1; omega) (by omega) hpj.1 hO (by omega)) (hpre := fun w hw => hw.see (i := 6) rfl) ?_; rintro _ _ ⟨x_26, m_27, A_28, e_29, k_30, f_31, rfl, rfl⟩; refine go ?_)
       | (refine jS (i := 20) 3 [.slice x_26.a1 m_27.r.length x_26.c1, .slice x_26.a2 m_27.w.length x_26.c2] ?_)
       | (refine jS (i := 20) 4 [.slice x_26.a1 m_27.r.length x_26.c1, .slice x_26.a2 m_27.w.length x_26.c2] ?_)
       | (refine jf (i := 19) 3 [iv A_28.code, iv A_28.n, str A_28.text] ?_)
       | exact jh [0, 0, 0, 0, 0, 0, 0, 0, 0, 0, 0] ⟨x_26, m_27, A_28, b_34, b_36, e_29, k_30, f_31, EL.go, rfl⟩
       | exact jh [1, 0, 0, 0, 0, 0, 0, 0, 0, 0, 0] ⟨x_26, m_27, A_28, b_34, b_36, e_29, k_30, f_31, EL.go, rfl⟩
       | exact jh [0, 3, 0, 0, 0, 0, 0, 0, 0, 0, 0] ⟨x_26, m_27, A_28, b_34, b_36, e_29, k_30, f_31, EL.go, rfl⟩
       | exact jh [3, 3, 0, 0, 0, 0, 0, 0, 0, 0, 0] ⟨x_26, m_27, A_28, b_34, b_36, e_29, k_30, f_31, EL.go, rfl⟩
       | exact jh [4, 0, 0, 0, 0, 0, 0, 0, 0, 0, 0] ⟨x_26, m_27, A_28, b_34, b_36, e_29, k_30, f_31, EL.go, rfl⟩
       | exact jh [4, 3, 0, 0, 0, 0, 0, 0, 0, 0, 0] ⟨x_26, m_27, A_28, b_34, b_36, e_29, k_30, f_31, EL.go, rfl⟩
   rintro _ _ ⟨x_9, m_10, A_11, b_15, b_16, e_12, k_13, f_14, ⟨_, rfl⟩, rfl⟩
   refine go ?_
   have hkt := run_tight (m := ⟨s_, [], []⟩) hG hlt hS e_12 k_13
   refine go ?_
   refine jF rfl (jR (ps := [(0, .agg #[iv A_11.code, iv A_11.n, str A_11.text])]) (cur := #[iv A_11.code, iv A_11.n, str A_11.text]) ke kY Tryz.zeroValue39 rfl (by kernel_rfl) (by decide) (by decide)) ?_
   rintro _ _ ⟨a_98, rfl, rfl⟩
   refine jF rfl (jX 9 (q := 1) (news := ([A_11] : List AN).flatMap encA) (n' := (o_ ++ ([A_11] : List AN)).length) (cs' := (o_ ++ ([A_11] : List AN)).flatMap encA) rfl ke ke Tryz.typeInfo39 rfl (by' := 32) rfl rfl rfl rfl rfl (fun w hw => Src.sees (hw.see (i := 0) rfl) (oneA _)) (by (try simp only [LE]); omega) (by (try simp only [LE]); omega) (by simp only [List.length_append, List.length_take, List.length_drop, List.length_cons, List.length_nil] <;> first | rfl | omega) (by simp only [List.flatMap_append])) ?_
   rintro _ _ ⟨a_99, c_100, rfl, rfl⟩
   refine go ?_
   have hkr := k_13.2.1
   have hkw := k_13.2.2.1
   refine go ?_
   refine jA [] (C_joinTouch r_a w_a x_9.a1 x_9.a2 r_c w_c x_9.c1 x_9.c2 r_ w_ m_10.r m_10.w (by omega) (by omega) (by (try simp only [List.length_nil]); omega) (by (try simp only [List.length_nil]); omega)) (hpre := fun w hw => ⟨hw.see (i := 7) rfl, hw.see (i := 6) rfl, hw.see (i := 4) rfl, hw.see (i := 5) rfl⟩) ?_
   rintro _ _ ⟨a_101, c_102, a_103, c_104, rfl, rfl⟩
   refine jD 10 [.slice a_101 (m_10.r.foldl addSpan r_).length c_102, .slice a_103 (m_10.w.foldl addSpan w_).length c_104] ?_
   refine go ?_
   exact jP [1, 0, 8, 8, 3, 8] ⟨(j_ + 1), x_9.a0, x_9.c0, m_10.s, a_99, c_100, (o_ ++ ([A_11] : List AN)), a_101, c_102, (m_10.r.foldl addSpan r_), a_103, c_104, (m_10.w.foldl addSpan w_), (by omega), hkt.okC', (run_store (m := ⟨s_, [], []⟩) hlt hS e_12), (by simp only [List.length_append, List.length_cons, List.length_nil]; omega), (by have hl_ := foldSpan_len m_10.r r_; have hk_ := k_13.2; omega), (by have hl_ := foldSpan_len m_10.w w_; have hk_ := k_13.2; omega), (by rw [runL_step hlt e_12] at hR; exact hR), EL.go, rfl, rfl⟩
 refine go ?_
 refine jH [2] 5 ?_
 refine go ?_
 refine jB (i := 5) ?_
 refine jS 5 [.slice r_a r_.length r_c, .slice w_a w_.length w_c] ?_
 refine go ?_
 refine ju (pick_perm [4, 3, 1, 0] (A := [rC s_a s_c s_, Res.row (.slice o_a o_.length o_c) 39 3 o_.length (o_.flatMap encA), rS r_a r_c r_, rS w_a w_c w_]) (F := [bk b_6 32 [.slice r_a r_.length r_c, .slice w_a w_.length w_c], bk b_1 32 [.slice r_a r_.length r_c, .slice w_a w_.length w_c]]) rfl).symm ?_
 refine Done.three (.inl rfl) rfl (jC (v := .slice s_a s_.length s_c) rfl) (jC (v := .slice o_a o_.length o_c) rfl) (js (jl 5 (vs := [.slice r_a r_.length r_c, .slice w_a w_.length w_c]) rfl rfl kt ku rfl rfl) ⟨_, rfl⟩) (tS 4 _) ?_
 obtain rfl : j_ = steps.length := by omega
 rw [List.drop_length, runL] at hR
 exact ⟨s_a, s_c, s_, o_a, o_c, o_, r_a, r_c, r_, w_a, w_c, w_, hR.symm, hO, hol, ⟨hr, hw_⟩, rfl, rfl⟩
end Go.Proofs.YthlfmbbaomdciaaGreatDoor
